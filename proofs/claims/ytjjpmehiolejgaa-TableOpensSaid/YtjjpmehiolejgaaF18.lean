/- Walks, printed by my generator gen18.py. -/
import Derived.Test.YtjjpmehiolejgaaF16
import Derived.Test.YtjjpmehiolejgaaF17
namespace Go.Proofs.Ytjjpmehiolejgaa
theorem mem_vals {E : Tm} {k : Int} {e : Ety} (h : gget E k = some e) : ∃ q ∈ E, q.2 = e := by
  induction E with
  | nil => cases h
  | cons q E ih =>
    obtain ⟨a, v⟩ := q
    simp only [gget] at h
    split at h
    · exact ⟨_, List.mem_cons_self, Option.some.inj h⟩
    · obtain ⟨q, h1, h2⟩ := ih h
      exact ⟨q, List.mem_cons_of_mem _ h1, h2⟩
theorem not_has {E : Tm} {p : Int × Int} (h : ∀ q ∈ E, q.2.h ≠ p) : ∀ e ∈ allE E, e.h ≠ p := fun e he => by
  obtain ⟨k, _, hk⟩ := List.mem_filterMap.1 he
  obtain ⟨q, h1, h2⟩ := mem_vals hk
  rw [← h2]
  exact h q h1
theorem has_at {E : Tm} {p : Int × Int} (k : Nat) (e : Ety) (h : gget E (k : Int) = some e) (hk : k < 256) (he : e.h = p) : ∃ e ∈ allE E, e.h = p := ⟨e, List.mem_of_getElem? (allE_at h hk), he⟩
theorem tnew_lit (n : Nat) (gn : Int) (hn : 1 ≤ n ∧ n ≤ 256) (hgn : 1 ≤ gn ∧ gn ≤ 4294967295) (A2 : List Sl2) (hA : List.replicate n (0, gn) = A2) : HT Try.prog 11 [Value.int IntKind.i64 (((n : Nat) : Int)), Value.int IntKind.u32 gn] [] (fun v K => ∃ b : Nat, v = Value.tuple #[Value.pointer (some ⟨b, 0, none⟩), Value.int .i64 0] ∧ K = [Tab b n A2 [] []]) := by
  subst hA
  exact tnew_ok n gn hn hgn
theorem topen_lit (b n : Nat) (A : List Sl2) (E : Tm) (RL : List Rs) (x y z hx hy : Int) (L : List UInt8) (hz0 : 0 ≤ z) (hz1 : z ≤ 4294967295) (hm : L.length ≤ 1099511627776) (ho : 1 ≤ x ∧ x ≤ 3 ∧ 0 ≤ y ∧ y ≤ 63 ∧ 1 ≤ z) (ht : tagE L = 0) (hob : 0 ≤ hx ∧ hx ≤ 255 ∧ 1 ≤ hy) (hc : ∀ r ∈ RL, r.out ≠ (x, y, z)) (hh : ∀ e ∈ allE E, e.h ≠ (hx, hy)) (hl : RL.length < 2000) (j : Nat) (gj : Int) (hj : (inS 0 A 0)[0]? = some (j, gj)) (hfl_ : 1 ≤ (inS 0 A 0).length) (jz : Int) (hjz : (j : Int) = jz) (A2 : List Sl2) (E2 : Tm) (R2 : List Rs) (hA : A.set j (1, gj) = A2) (hE : gset E (j : Int) ⟨(x, (j : Int), gj), (RL.length : Int) + 1, (hx, hy)⟩ = E2) (hR : RL ++ [(⟨(x, y, z), 1, 0, 0, 0, L⟩ : Rs)] = R2) : HT Try.prog 12 [Value.pointer (some ⟨b, 0, none⟩), Value.agg #[Value.int IntKind.i64 x, Value.int IntKind.i64 y, Value.int IntKind.u32 z], Value.string (St L), Value.agg #[Value.int IntKind.i64 hx, Value.int IntKind.u32 hy]] [Tab b n A E RL] (fun v K => v = Value.tuple #[Value.agg #[Value.int IntKind.i64 x, Value.int IntKind.i64 jz, Value.int IntKind.u32 gj], Value.int IntKind.i64 0] ∧ K = [Tab b n A2 E2 R2]) := by
  subst hA
  subst hE
  subst hR
  subst hjz
  exact topen_ok b n A E RL x y z hx hy L hz0 hz1 hm ho ht hob hc hh hl j gj hj hfl_
theorem tdup_lit (b n : Nat) (A : List Sl2) (E : Tm) (RL : List Rs) (x y z hx hy : Int) (hob : 0 ≤ hx ∧ hx ≤ 255 ∧ 1 ≤ hy) (e : Ety) (hz0 : 0 ≤ z) (hz1 : z ≤ 4294967295) (ho : 1 ≤ x ∧ x ≤ 3 ∧ 0 ≤ y ∧ y ≤ 255 ∧ 1 ≤ z) (hg_ : gget E y = some e) (hd_ : e.d.1 = x ∧ e.d.2.1 = y ∧ e.d.2.2 = z) (hh : ∀ e ∈ allE E, e.h ≠ (hx, hy)) (q : Nat) (r : Rs) (hr : RL[q]? = some r) (hv : e.num = (q : Int) + 1) (j : Nat) (gj : Int) (hj : (inS 0 A 0)[0]? = some (j, gj)) (hfl_ : 1 ≤ (inS 0 A 0).length) (jz kz : Int) (hjz : (j : Int) = jz) (hkz : r.out.1 = kz) (A2 : List Sl2) (E2 : Tm) (hA : A.set j (1, gj) = A2) (hE : gset E (j : Int) ⟨(r.out.1, (j : Int), gj), e.num, (hx, hy)⟩ = E2) : HT Try.prog 14 [Value.pointer (some ⟨b, 0, none⟩), Value.agg #[Value.int IntKind.i64 x, Value.int IntKind.i64 y, Value.int IntKind.u32 z], Value.agg #[Value.int IntKind.i64 hx, Value.int IntKind.u32 hy]] [Tab b n A E RL] (fun v K => v = Value.tuple #[Value.agg #[Value.int IntKind.i64 kz, Value.int IntKind.i64 jz, Value.int IntKind.u32 gj], Value.int IntKind.i64 0] ∧ K = [Tab b n A2 E2 RL]) := by
  subst hA
  subst hE
  subst hjz
  subst hkz
  exact tdup_ok b n A E RL x y z hx hy hob e hz0 hz1 ho hg_ hd_ hh q r hr hv j gj hj hfl_
theorem tclose_lit (b n : Nat) (A : List Sl2) (E : Tm) (RL : List Rs) (x y z : Int) (e : Ety) (hz0 : 0 ≤ z) (hz1 : z ≤ 4294967295) (ho : 1 ≤ x ∧ x ≤ 3 ∧ 0 ≤ y ∧ y ≤ 255 ∧ 1 ≤ z) (hg_ : gget E y = some e) (hd_ : e.d.1 = x ∧ e.d.2.1 = y ∧ e.d.2.2 = z) (q : Nat) (s : Sl2) (hs : A[q]? = some s) (hs_ : y = (q : Int) ∧ s.1 = 1 ∧ s.2 = z) (hnum : 1 ≤ e.num ∧ e.num ≤ (RL.length : Int)) (nz : Int) (hnz : e.num = nz) (lb : Bool) (hlb : decide ((descs (gdel E y) e.num).length = 0) = lb) (A2 : List Sl2) (E2 : Tm) (hA : giveA A q z = A2) (hE : gdel E y = E2) : HT Try.prog 15 [Value.pointer (some ⟨b, 0, none⟩), Value.agg #[Value.int IntKind.i64 x, Value.int IntKind.i64 y, Value.int IntKind.u32 z]] [Tab b n A E RL] (fun v K => v = Value.tuple #[Value.int .i64 nz, Value.bool lb, Value.int .i64 0] ∧ K = [Tab b n A2 E2 RL]) := by
  subst hA
  subst hE
  subst hlb
  subst hnz
  exact tclose_ok b n A E RL x y z e hz0 hz1 ho hg_ hd_ q s hs hs_ hnum
theorem seq28_eql_t {n : Nat} {l : Fr} {o : Oper} {x y : Operand} (a0 : Int) (a1 : Int) (a2 : Int) (c0 : Int) (c1 : Int) (c2 : Int) (ho : o.op = .binOp .eql 28 x y 28) (hx : fe n l x = .agg #[.int .i64 a0, .int .i64 a1, .int .u32 a2]) (hy : fe n l y = .agg #[.int .i64 c0, .int .i64 c1, .int .u32 c2]) (h : a0 = c0 ∧ a1 = c1 ∧ a2 = c2) (w : World) : (execOp (fe n l) o).run Try.prog w = .ok (.value (.bool true)) w := by
  obtain ⟨rfl, rfl, rfl⟩ := h
  simp [execOp, ho, hx, hy, go_sem]
set_option maxHeartbeats 4000000 in
theorem lfile (y z : Int) : HT Try.prog 13 [Value.int IntKind.i64 y, Value.int IntKind.u32 z] [] (fun v K => v = Value.agg #[Value.int IntKind.i64 1, Value.int IntKind.i64 y, Value.int IntKind.u32 z] ∧ K = []) := by
 refine hi_in 8 ([(0, iV y), (1, uV z)] : Fr) Try.func13 (by kernel_rfl) Try.ntmps13 rfl rfl ?_
 intro g w0 R h0
 refine ySq ?_
 refine yPl [0] ?_
 refine yA ?_
 refine yNp 4 32 [iV 0, iV 0, uV 0] h0 fun r1 w2 h3 => ?_
 refine PO.mk ?_
 refine yK [(0, iV y), (1, uV z), (4, pV r1)] fun lr4 => ?_
 refine ySq ?_
 refine yPl [0, 1, 2, 3] ?_
 refine yB0 [3] [0, 1, 2] [(7, .agg #[iV 1, iV y, uV z]), (6, uV z), (5, iV y)] ?_
 refine yA ?_
 refine yS [(0, iV 1), (1, iV y), (2, uV z)] [iV 1, iV y, uV z] h3 fun w5 h6 => ?_
 refine PO.mk ?_
 refine yK [(4, pV r1)] fun lr7 => ?_
 refine yRt ?_
 repeat (first | simp only [Exit.inBlock] | simp only [Exit.then])
 have h8 := tk1 (sf1 h6)
 refine hi_out [iV 1, iV y, uV z] (.agg #[iV 1, iV y, uV z]) [(⟨r1, 0, none⟩, iV 1), (⟨r1, 1, none⟩, iV y), (⟨r1, 2, none⟩, uV z)] (by kernel_rfl) (allq ⟨sat_cell h6 0 rfl rfl, sat_cell h6 0 rfl rfl, sat_cell h6 0 rfl rfl, trivial⟩) ?_
 exact ⟨.agg #[iV 1, iV y, uV z], [], rfl, ⟨rfl, rfl⟩, h8⟩

set_option maxHeartbeats 4000000 in
theorem ldesc (y z : Int) : HT Try.prog 16 [Value.int IntKind.i64 y, Value.int IntKind.u32 z] [] (fun v K => v = Value.agg #[Value.int IntKind.i64 1, Value.int IntKind.i64 y, Value.int IntKind.u32 z] ∧ K = []) := by
 refine hi_in 8 ([(0, iV y), (1, uV z)] : Fr) Try.func16 (by kernel_rfl) Try.ntmps16 rfl rfl ?_
 intro g w0 R h0
 refine ySq ?_
 refine yPl [0] ?_
 refine yA ?_
 refine yNp 4 28 [iV 0, iV 0, uV 0] h0 fun r1 w2 h3 => ?_
 refine PO.mk ?_
 refine yK [(0, iV y), (1, uV z), (4, pV r1)] fun lr4 => ?_
 refine ySq ?_
 refine yPl [0, 1, 2, 3] ?_
 refine yB0 [3] [0, 1, 2] [(7, .agg #[iV 1, iV y, uV z]), (6, uV z), (5, iV y)] ?_
 refine yA ?_
 refine yS [(0, iV 1), (1, iV y), (2, uV z)] [iV 1, iV y, uV z] h3 fun w5 h6 => ?_
 refine PO.mk ?_
 refine yK [(4, pV r1)] fun lr7 => ?_
 refine yRt ?_
 repeat (first | simp only [Exit.inBlock] | simp only [Exit.then])
 have h8 := tk1 (sf1 h6)
 refine hi_out [iV 1, iV y, uV z] (.agg #[iV 1, iV y, uV z]) [(⟨r1, 0, none⟩, iV 1), (⟨r1, 1, none⟩, iV y), (⟨r1, 2, none⟩, uV z)] (by kernel_rfl) (allq ⟨sat_cell h6 0 rfl rfl, sat_cell h6 0 rfl rfl, sat_cell h6 0 rfl rfl, trivial⟩) ?_
 exact ⟨.agg #[iV 1, iV y, uV z], [], rfl, ⟨rfl, rfl⟩, h8⟩

set_option maxHeartbeats 4000000 in
theorem works_ht  : HT Try.prog 18 [] [] (fun v K => v = Value.bool true ∧ K = []) := by
 refine hi_in 148 ([] : Fr) Try.func18 (by kernel_rfl) Try.ntmps18 rfl rfl ?_
 intro g w0 R h0
 refine ySq ?_
 refine yPl [0] ?_
 refine yB0 [] [0] [(0, .bool false)] (.mk ?_)
 refine yK [] fun lr1 => ?_
 refine ySq ?_
 refine yPl [0, 1, 2, 3, 4, 5] ?_
 refine yA ?_
 refine yCl 22 Try.call11 (tnew_lit 2 1 (by omega) (by omega) [(0, 1), (0, 1)] (by kernel_rfl)) h0 ?_
 rintro v K w3 (⟨b2, rfl, rfl⟩) h4
 refine ⟨_, rfl, ?_⟩
 have h5 := ap1 h4
 refine yB0 [] [1, 2, 3, 4, 5] [(2, iV 0), (1, pV b2), (24, iV 0), (23, pV b2), (21, .tuple #[pV b2, iV 0])] (.mk ?_)
 refine yK [(1, pV b2), (2, iV 0)] fun lr6 => ?_
 refine ySq ?_
 refine ySq ?_
 refine yPl [0, 1, 2, 3, 4, 5] ?_
 refine yB0 [] [0, 1, 2, 3, 4, 5] [(30, .bool false), (29, .bool false), (28, pV b2), (27, .bool false), (26, .bool false), (25, iV 0)] (.mk ?_)
 refine yK [(1, pV b2), (30, .bool false)] fun lr7 => ?_
 refine yCf ?_
 refine ySk ?_
 refine ySq ?_
 refine yPl [0, 1, 2, 3, 4, 5, 6, 7, 8, 9] ?_
 refine yB0 [1, 2, 3, 4, 5, 6, 7, 8, 9] [0] [(32, pV b2)] ?_
 refine yA ?_
 refine yCl 33 Try.call13 (lfile 0 1) h5 ?_
 rintro v K w8 (⟨rfl, rfl⟩) h9
 refine ⟨_, rfl, ?_⟩
 have h10 := ap0 h9
 refine yB0 [3, 4, 5, 6, 7, 8, 9] [2] [(34, .agg #[iV 5, uV 1])] ?_
 refine yA ?_
 refine yCl 35 Try.call12 (topen_lit b2 2 [(0, 1), (0, 1)] [] [] (1) (0) (1) (5) (1) [109, 97, 105, 110] (by omega) (by omega) (by simp only [List.length_cons, List.length_nil]; omega) (by omega) (by kernel_rfl) (by omega) (by decide) (not_has (by decide)) (by decide) 0 1 (by kernel_rfl) (by decide) 0 rfl [(1, 1), (0, 1)] [(0, ⟨(1, 0, 1), 1, (5, 1)⟩)] [⟨(1, 0, 1), 1, 0, 0, 0, [109, 97, 105, 110]⟩] (by kernel_rfl) (by kernel_rfl) (by kernel_rfl)) h10 ?_
 rintro v K w11 (⟨rfl, rfl⟩) h12
 refine ⟨_, rfl, ?_⟩
 have h13 := ap1 h12
 refine yB0 [7, 8, 9] [4, 5, 6] [(37, iV 0), (36, .agg #[iV 1, iV 0, uV 1]), (31, .tuple #[.agg #[iV 1, iV 0, uV 1], iV 0])] ?_
 refine yA ?_
 refine yNp 3 28 [iV 0, iV 0, uV 0] h13 fun r14 w15 h16 => ?_
 refine yA ?_
 refine yS [(0, iV 1), (1, iV 0), (2, uV 1)] [iV 1, iV 0, uV 1] h16 fun w17 h18 => ?_
 refine yB0 [] [9] [(4, iV 0)] (.mk ?_)
 refine yK [(1, pV b2), (3, pV r14), (4, iV 0)] fun lr19 => ?_
 refine ySq ?_
 refine yPl [0, 1, 2, 3, 4, 5, 6, 7, 8, 9] ?_
 refine yB0 [1, 2, 3, 4, 5, 6, 7, 8, 9] [0] [(39, pV b2)] ?_
 refine yA ?_
 refine yCl 40 Try.call13 (lfile 1 1) h18 ?_
 rintro v K w20 (⟨rfl, rfl⟩) h21
 refine ⟨_, rfl, ?_⟩
 have h22 := ap0 h21
 refine yB0 [3, 4, 5, 6, 7, 8, 9] [2] [(41, .agg #[iV 5, uV 1])] ?_
 have h23 := tk3 (sf2 (sf1 (sf2 h22)))
 refine yA ?_
 refine yCl 42 Try.call12 (topen_have b2 2 [(1, 1), (0, 1)] [(0, ⟨(1, 0, 1), 1, (5, 1)⟩)] ([⟨(1, 0, 1), 1, 0, 0, 0, [109, 97, 105, 110]⟩]) (1) (1) (1) (5) (1) [120] (by omega) (by omega) (by simp only [List.length_cons, List.length_nil]; omega) (by omega) (by kernel_rfl) (by omega) (by decide) (has_at 0 ⟨(1, 0, 1), 1, (5, 1)⟩ (by kernel_rfl) (by decide) rfl)) h23 ?_
 rintro v K w24 (⟨rfl, rfl⟩) h25
 refine ⟨_, rfl, ?_⟩
 have h26 := ap1 h25
 refine yB0 [7, 8, 9] [4, 5, 6] [(44, iV 6), (43, .agg #[iV 0, iV 0, uV 0]), (38, .tuple #[.agg #[iV 0, iV 0, uV 0], iV 6])] ?_
 refine yA ?_
 refine yNp 5 28 [iV 0, iV 0, uV 0] h26 fun r27 w28 h29 => ?_
 refine yA ?_
 refine yS [(0, iV 0), (1, iV 0), (2, uV 0)] [iV 0, iV 0, uV 0] h29 fun w30 h31 => ?_
 refine yB0 [] [9] [(6, iV 6)] (.mk ?_)
 refine yK [(1, pV b2), (3, pV r14), (4, iV 0), (6, iV 6)] fun lr32 => ?_
 refine ySq ?_
 refine yPl [0, 1, 2, 3, 4, 5, 6, 7, 8, 9] ?_
 refine yBb [3, 4, 5, 6, 7, 8, 9] [(48, .agg #[iV 6, uV 1]), (47, .agg #[iV 1, iV 0, uV 1]), (46, pV b2)] [e0 0, e2 1 [iV 1, iV 0, uV 1], e0 2] [(1, ⟨r14, 0, none⟩, iV 1), (1, ⟨r14, 1, none⟩, iV 0), (1, ⟨r14, 2, none⟩, uV 1)] [] trivial (kC (sat_cell h31 2 rfl rfl) (kC (sat_cell h31 2 rfl rfl) (kC (sat_cell h31 2 rfl rfl) nC))) ?_
 have h33 := tk4 (sf3 (sf2 (sf3 (sf3 h31))))
 refine yA ?_
 refine yCl 49 Try.call14 (tdup_lit b2 2 [(1, 1), (0, 1)] [(0, ⟨(1, 0, 1), 1, (5, 1)⟩)] ([⟨(1, 0, 1), 1, 0, 0, 0, [109, 97, 105, 110]⟩]) 1 0 1 6 1 (by omega) ⟨(1, 0, 1), 1, (5, 1)⟩ (by omega) (by omega) (by omega) (by kernel_rfl) (by decide) (not_has (by decide)) 0 ⟨(1, 0, 1), 1, 0, 0, 0, [109, 97, 105, 110]⟩ rfl (by decide) 1 1 (by kernel_rfl) (by decide) 1 1 rfl rfl [(1, 1), (1, 1)] [(0, ⟨(1, 0, 1), 1, (5, 1)⟩), (1, ⟨(1, 1, 1), 1, (6, 1)⟩)] (by kernel_rfl) (by kernel_rfl)) h33 ?_
 rintro v K w34 (⟨rfl, rfl⟩) h35
 refine ⟨_, rfl, ?_⟩
 have h36 := ap1 h35
 refine yB0 [7, 8, 9] [4, 5, 6] [(51, iV 0), (50, .agg #[iV 1, iV 1, uV 1]), (45, .tuple #[.agg #[iV 1, iV 1, uV 1], iV 0])] ?_
 refine yA ?_
 refine yNp 7 28 [iV 0, iV 0, uV 0] h36 fun r37 w38 h39 => ?_
 refine yA ?_
 refine yS [(0, iV 1), (1, iV 1), (2, uV 1)] [iV 1, iV 1, uV 1] h39 fun w40 h41 => ?_
 refine yB0 [] [9] [(8, iV 0)] (.mk ?_)
 refine yK [(1, pV b2), (3, pV r14), (4, iV 0), (6, iV 6), (7, pV r37), (8, iV 0)] fun lr42 => ?_
 refine ySq ?_
 refine ySq ?_
 refine gi_drw (id := 7) (ops := RA Try.f18 [1, 1, 1, 1, 1, 1, 0, 0]) (Tr.fl 0 (Tr.fl 1 (Tr.fl 2 (Tr.fl 3 (Tr.an 4 (Tr.fl 5 (Tr.fl 6 (Tr.fl 7 (Tr.fl 8 (Tr.fl 9 (Tr.fl 10 (Tr.fl 11 (Tr.fl 12 (Tr.fl 13 (Tr.fl 14 (Tr.fl 15 (Tr.fl 16 (Tr.an 17 (Tr.fl 18 (Tr.fl 19 Tr.nil)))))))))))))))))))) (by kernel_rfl) (by kernel_rfl) (by kernel_rfl) (by kernel_rfl) (by kernel_rfl) (fun _ _ d _ _ h => by cases d <;> exact h) h41 ?_
 intro w43 h44
 refine yD _ [(55, .agg #[iV 1, iV 0, uV 1]), (54, .bool false), (53, .bool false), (52, iV 0)] [e0 0, e0 1, e0 2, e2 3 [iV 1, iV 0, uV 1]] [(3, ⟨r14, 0, none⟩, iV 1), (3, ⟨r14, 1, none⟩, iV 0), (3, ⟨r14, 2, none⟩, uV 1)] [] trivial (kC (sat_cell h44 3 rfl rfl) (kC (sat_cell h44 3 rfl rfl) (kC (sat_cell h44 3 rfl rfl) nC))) ?_
 refine draw_act (i := 4) [(3, ⟨r14, 0, none⟩, iV 1), (3, ⟨r14, 1, none⟩, iV 0), (3, ⟨r14, 2, none⟩, uV 1)] (by kernel_rfl) (by kernel_rfl) ?_
 refine yCl 56 Try.call16 (ldesc 0 1) h44 ?_
 rintro v K w45 (⟨rfl, rfl⟩) h46
 refine ⟨_, rfl, ?_⟩
 have h47 := ap0 h46
 refine ⟨(AllC_cons (sat_cell h47 3 rfl rfl) (AllC_cons (sat_cell h47 3 rfl rfl) (AllC_cons (sat_cell h47 3 rfl rfl) (AllC_nil _)))), ?_⟩
 refine draw_law (i := 5) 57 (.bool false) [] (by kernel_rfl) (fun _ _ => seq28_neq_t (o := opA (RA Try.f18 [1, 1, 1, 1, 1, 1, 0, 0]) 5) (x := (Operand.tmp 55)) (y := (Operand.tmp 56)) 1 0 1 1 0 1 (by kernel_rfl) (by kernel_rfl) (by kernel_rfl) ⟨rfl, rfl, rfl⟩ _) (by intro q hq; cases hq) ?_
 refine yD _ [(68, .agg #[iV 1, iV 1, uV 1]), (67, .bool false), (66, .bool false), (65, .bool false), (64, iV 0), (63, .bool false), (62, .bool false), (61, .bool false), (60, iV 6), (59, .bool false), (58, .bool false)] [e0 6, e0 7, e0 8, e0 9, e0 10, e0 11, e0 12, e0 13, e0 14, e0 15, e2 16 [iV 1, iV 1, uV 1]] [(16, ⟨r37, 0, none⟩, iV 1), (16, ⟨r37, 1, none⟩, iV 1), (16, ⟨r37, 2, none⟩, uV 1)] [] trivial (kC (sat_cell h47 0 rfl rfl) (kC (sat_cell h47 0 rfl rfl) (kC (sat_cell h47 0 rfl rfl) nC))) ?_
 refine draw_act (i := 17) [(16, ⟨r37, 0, none⟩, iV 1), (16, ⟨r37, 1, none⟩, iV 1), (16, ⟨r37, 2, none⟩, uV 1), (3, ⟨r14, 0, none⟩, iV 1), (3, ⟨r14, 1, none⟩, iV 0), (3, ⟨r14, 2, none⟩, uV 1)] (by kernel_rfl) (by kernel_rfl) ?_
 refine yCl 69 Try.call16 (ldesc 1 1) h47 ?_
 rintro v K w48 (⟨rfl, rfl⟩) h49
 refine ⟨_, rfl, ?_⟩
 have h50 := ap0 h49
 refine ⟨(AllC_cons (sat_cell h50 0 rfl rfl) (AllC_cons (sat_cell h50 0 rfl rfl) (AllC_cons (sat_cell h50 0 rfl rfl) (AllC_cons (sat_cell h50 3 rfl rfl) (AllC_cons (sat_cell h50 3 rfl rfl) (AllC_cons (sat_cell h50 3 rfl rfl) (AllC_nil _))))))), ?_⟩
 refine draw_law (i := 18) 70 (.bool false) [] (by kernel_rfl) (fun _ _ => seq28_neq_t (o := opA (RA Try.f18 [1, 1, 1, 1, 1, 1, 0, 0]) 18) (x := (Operand.tmp 68)) (y := (Operand.tmp 69)) 1 1 1 1 1 1 (by kernel_rfl) (by kernel_rfl) (by kernel_rfl) ⟨rfl, rfl, rfl⟩ _) (by intro q hq; cases hq) ?_
 refine yD _ [(71, .bool false)] [e0 19] [] [] trivial nC ?_
 refine yK [(1, pV b2), (3, pV r14), (7, pV r37), (71, .bool false)] fun lr51 => ?_
 refine yCf ?_
 refine ySk ?_
 refine ySq ?_
 refine yPl [0, 1, 2, 3, 4, 5, 6, 7, 8, 9] ?_
 refine yBb [2, 3, 4, 5, 6, 7, 8, 9] [(74, .agg #[iV 1, iV 0, uV 1]), (73, pV b2)] [e0 0, e2 1 [iV 1, iV 0, uV 1]] [(1, ⟨r14, 0, none⟩, iV 1), (1, ⟨r14, 1, none⟩, iV 0), (1, ⟨r14, 2, none⟩, uV 1)] [] trivial (kC (sat_cell h50 3 rfl rfl) (kC (sat_cell h50 3 rfl rfl) (kC (sat_cell h50 3 rfl rfl) nC))) ?_
 have h52 := tk5 (sf4 (sf3 (sf4 (sf4 (sf4 h50)))))
 refine yA ?_
 refine yCl 75 Try.call15 (tclose_lit b2 2 [(1, 1), (1, 1)] [(0, ⟨(1, 0, 1), 1, (5, 1)⟩), (1, ⟨(1, 1, 1), 1, (6, 1)⟩)] ([⟨(1, 0, 1), 1, 0, 0, 0, [109, 97, 105, 110]⟩]) 1 0 1 ⟨(1, 0, 1), 1, (5, 1)⟩ (by omega) (by omega) (by omega) (by kernel_rfl) (by decide) 0 (1, 1) rfl (by decide) (by decide) 1 rfl false (by kernel_rfl) [(0, 2), (1, 1)] [(1, ⟨(1, 1, 1), 1, (6, 1)⟩)] (by kernel_rfl) (by kernel_rfl)) h52 ?_
 rintro v K w53 (⟨rfl, rfl⟩) h54
 refine ⟨_, rfl, ?_⟩
 have h55 := ap1 h54
 refine yB0 [] [3, 4, 5, 6, 7, 8, 9] [(11, iV 0), (10, .bool false), (9, iV 1), (78, iV 0), (77, .bool false), (76, iV 1), (72, .tuple #[iV 1, .bool false, iV 0])] (.mk ?_)
 refine yK [(1, pV b2), (3, pV r14), (7, pV r37), (9, iV 1), (10, .bool false), (11, iV 0)] fun lr56 => ?_
 refine ySq ?_
 refine yPl [0, 1, 2, 3, 4, 5, 6, 7] ?_
 refine yBb [2, 3, 4, 5, 6, 7] [(81, .agg #[iV 1, iV 0, uV 1]), (80, pV b2)] [e0 0, e2 1 [iV 1, iV 0, uV 1]] [(1, ⟨r14, 0, none⟩, iV 1), (1, ⟨r14, 1, none⟩, iV 0), (1, ⟨r14, 2, none⟩, uV 1)] [] trivial (kC (sat_cell h55 3 rfl rfl) (kC (sat_cell h55 3 rfl rfl) (kC (sat_cell h55 3 rfl rfl) nC))) ?_
 refine yA ?_
 refine yCl 82 Try.call25 (tnum_none b2 2 [(0, 2), (1, 1)] [(1, ⟨(1, 1, 1), 1, (6, 1)⟩)] ([⟨(1, 0, 1), 1, 0, 0, 0, [109, 97, 105, 110]⟩]) 1 0 1 (by omega) (by omega) (by omega) (by kernel_rfl)) h55 ?_
 rintro v K w57 (⟨rfl, rfl⟩) h58
 refine ⟨_, rfl, ?_⟩
 have h59 := ap1 h58
 refine yB0 [] [3, 4, 5, 6, 7] [(13, iV 7), (12, iV 0), (84, iV 7), (83, iV 0), (79, .tuple #[iV 0, iV 7])] (.mk ?_)
 refine yK [(1, pV b2), (3, pV r14), (7, pV r37), (9, iV 1), (10, .bool false), (11, iV 0), (13, iV 7)] fun lr60 => ?_
 refine ySq ?_
 refine yPl [0, 1, 2, 3, 4, 5, 6, 7, 8, 9] ?_
 refine yBb [2, 3, 4, 5, 6, 7, 8, 9] [(87, .agg #[iV 1, iV 1, uV 1]), (86, pV b2)] [e0 0, e2 1 [iV 1, iV 1, uV 1]] [(1, ⟨r37, 0, none⟩, iV 1), (1, ⟨r37, 1, none⟩, iV 1), (1, ⟨r37, 2, none⟩, uV 1)] [] trivial (kC (sat_cell h59 1 rfl rfl) (kC (sat_cell h59 1 rfl rfl) (kC (sat_cell h59 1 rfl rfl) nC))) ?_
 refine yA ?_
 refine yCl 88 Try.call15 (tclose_lit b2 2 [(0, 2), (1, 1)] [(1, ⟨(1, 1, 1), 1, (6, 1)⟩)] ([⟨(1, 0, 1), 1, 0, 0, 0, [109, 97, 105, 110]⟩]) 1 1 1 ⟨(1, 1, 1), 1, (6, 1)⟩ (by omega) (by omega) (by omega) (by kernel_rfl) (by decide) 1 (1, 1) rfl (by decide) (by decide) 1 rfl true (by kernel_rfl) [(0, 2), (0, 2)] [] (by kernel_rfl) (by kernel_rfl)) h59 ?_
 rintro v K w61 (⟨rfl, rfl⟩) h62
 refine ⟨_, rfl, ?_⟩
 have h63 := ap1 h62
 refine yB0 [] [3, 4, 5, 6, 7, 8, 9] [(16, iV 0), (15, .bool true), (14, iV 1), (91, iV 0), (90, .bool true), (89, iV 1), (85, .tuple #[iV 1, .bool true, iV 0])] (.mk ?_)
 refine yK [(1, pV b2), (3, pV r14), (9, iV 1), (10, .bool false), (11, iV 0), (13, iV 7), (14, iV 1), (15, .bool true), (16, iV 0)] fun lr64 => ?_
 refine ySq ?_
 refine yPl [0, 1, 2, 3, 4, 5, 6, 7, 8, 9] ?_
 refine yB0 [1, 2, 3, 4, 5, 6, 7, 8, 9] [0] [(93, pV b2)] ?_
 refine yA ?_
 refine yCl 94 Try.call13 (lfile 1 1) h63 ?_
 rintro v K w65 (⟨rfl, rfl⟩) h66
 refine ⟨_, rfl, ?_⟩
 have h67 := ap0 h66
 refine yB0 [3, 4, 5, 6, 7, 8, 9] [2] [(95, .agg #[iV 5, uV 1])] ?_
 refine yA ?_
 refine yCl 96 Try.call12 (topen_lit b2 2 [(0, 2), (0, 2)] [] ([⟨(1, 0, 1), 1, 0, 0, 0, [109, 97, 105, 110]⟩]) (1) (1) (1) (5) (1) [120] (by omega) (by omega) (by simp only [List.length_cons, List.length_nil]; omega) (by omega) (by kernel_rfl) (by omega) (by decide) (not_has (by decide)) (by decide) 0 2 (by kernel_rfl) (by decide) 0 rfl [(1, 2), (0, 2)] [(0, ⟨(1, 0, 2), 2, (5, 1)⟩)] [⟨(1, 0, 1), 1, 0, 0, 0, [109, 97, 105, 110]⟩, ⟨(1, 1, 1), 1, 0, 0, 0, [120]⟩] (by kernel_rfl) (by kernel_rfl) (by kernel_rfl)) h67 ?_
 rintro v K w68 (⟨rfl, rfl⟩) h69
 refine ⟨_, rfl, ?_⟩
 have h70 := ap1 h69
 refine yB0 [7, 8, 9] [4, 5, 6] [(98, iV 0), (97, .agg #[iV 1, iV 0, uV 2]), (92, .tuple #[.agg #[iV 1, iV 0, uV 2], iV 0])] ?_
 refine yA ?_
 refine yNp 17 28 [iV 0, iV 0, uV 0] h70 fun r71 w72 h73 => ?_
 refine yA ?_
 refine yS [(0, iV 1), (1, iV 0), (2, uV 2)] [iV 1, iV 0, uV 2] h73 fun w74 h75 => ?_
 refine yB0 [] [9] [(18, iV 0)] (.mk ?_)
 refine yK [(1, pV b2), (3, pV r14), (9, iV 1), (10, .bool false), (11, iV 0), (13, iV 7), (14, iV 1), (15, .bool true), (16, iV 0), (17, pV r71), (18, iV 0)] fun lr76 => ?_
 refine ySq ?_
 refine yPl [0, 1, 2, 3, 4, 5, 6, 7] ?_
 refine yBb [2, 3, 4, 5, 6, 7] [(101, .agg #[iV 1, iV 0, uV 1]), (100, pV b2)] [e0 0, e2 1 [iV 1, iV 0, uV 1]] [(1, ⟨r14, 0, none⟩, iV 1), (1, ⟨r14, 1, none⟩, iV 0), (1, ⟨r14, 2, none⟩, uV 1)] [] trivial (kC (sat_cell h75 4 rfl rfl) (kC (sat_cell h75 4 rfl rfl) (kC (sat_cell h75 4 rfl rfl) nC))) ?_
 have h77 := tk6 (sf5 (sf4 (sf5 (sf5 (sf5 (sf5 h75))))))
 refine yA ?_
 refine yCl 102 Try.call25 (tnum_diff b2 2 [(1, 2), (0, 2)] [(0, ⟨(1, 0, 2), 2, (5, 1)⟩)] ([⟨(1, 0, 1), 1, 0, 0, 0, [109, 97, 105, 110]⟩, ⟨(1, 1, 1), 1, 0, 0, 0, [120]⟩]) 1 0 1 ⟨(1, 0, 2), 2, (5, 1)⟩ (by omega) (by omega) (by omega) (by kernel_rfl) (by decide)) h77 ?_
 rintro v K w78 (⟨rfl, rfl⟩) h79
 refine ⟨_, rfl, ?_⟩
 have h80 := ap1 h79
 refine yB0 [] [3, 4, 5, 6, 7] [(20, iV 7), (19, iV 0), (104, iV 7), (103, iV 0), (99, .tuple #[iV 0, iV 7])] (.mk ?_)
 refine yK [(1, pV b2), (9, iV 1), (10, .bool false), (11, iV 0), (13, iV 7), (14, iV 1), (15, .bool true), (16, iV 0), (17, pV r71), (18, iV 0), (20, iV 7)] fun lr81 => ?_
 refine ySq ?_
 refine gi_drw (id := 14) (ops := RA Try.f18 [1, 1, 1, 1, 1, 1, 1, 1, 1, 1, 1, 1, 0]) (Tr.fl 0 (Tr.fl 1 (Tr.fl 2 (Tr.fl 3 (Tr.fl 4 (Tr.fl 5 (Tr.fl 6 (Tr.fl 7 (Tr.fl 8 (Tr.fl 9 (Tr.fl 10 (Tr.fl 11 (Tr.fl 12 (Tr.fl 13 (Tr.fl 14 (Tr.fl 15 (Tr.fl 16 (Tr.fl 17 (Tr.fl 18 (Tr.fl 19 (Tr.fl 20 (Tr.fl 21 (Tr.fl 22 (Tr.fl 23 (Tr.fl 24 (Tr.fl 25 (Tr.fl 26 (Tr.fl 27 (Tr.fl 28 (Tr.fl 29 (Tr.fl 30 (Tr.an 31 (Tr.fl 32 (Tr.fl 33 (Tr.fl 34 (Tr.fl 35 (Tr.fl 36 (Tr.fl 37 (Tr.fl 38 (Tr.fl 39 (Tr.an 40 (Tr.fl 41 (Tr.fl 42 (Tr.fl 43 Tr.nil)))))))))))))))))))))))))))))))))))))))))))) (by kernel_rfl) (by kernel_rfl) (by kernel_rfl) (by kernel_rfl) (by kernel_rfl) (fun _ _ d _ _ h => by cases d <;> exact h) h80 ?_
 intro w82 h83
 refine yD _ [(135, .agg #[iV 1, iV 0, uV 2]), (134, .bool true), (133, .bool true), (132, .bool true), (131, iV 0), (130, .bool true), (129, .bool true), (128, .bool true), (127, .bool true), (126, .bool true), (125, .bool true), (124, iV 1), (123, .bool true), (122, .bool true), (121, .bool true), (120, iV 0), (119, .bool true), (118, .bool true), (117, .bool true), (116, iV 7), (115, .bool true), (114, .bool true), (113, .bool true), (112, .bool false), (111, .bool true), (110, .bool true), (109, .bool true), (108, iV 1), (107, .bool true), (106, .bool true), (105, iV 0)] [e0 0, e0 1, e0 2, e0 3, e0 4, e0 5, e0 6, e0 7, e0 8, e0 9, e0 10, e0 11, e0 12, e0 13, e0 14, e0 15, e0 16, e0 17, e0 18, e0 19, e0 20, e0 21, e0 22, e0 23, e0 24, e0 25, e0 26, e0 27, e0 28, e0 29, e2 30 [iV 1, iV 0, uV 2]] [(30, ⟨r71, 0, none⟩, iV 1), (30, ⟨r71, 1, none⟩, iV 0), (30, ⟨r71, 2, none⟩, uV 2)] [] trivial (kC (sat_cell h83 1 rfl rfl) (kC (sat_cell h83 1 rfl rfl) (kC (sat_cell h83 1 rfl rfl) nC))) ?_
 refine fk_cut ([(135, .agg #[iV 1, iV 0, uV 2]), (134, .bool true), (1, pV b2), (9, iV 1), (10, .bool false), (11, iV 0), (13, iV 7), (14, iV 1), (15, .bool true), (16, iV 0), (17, pV r71), (18, iV 0), (20, iV 7)] : Fr) (by kernel_rfl) (fun a => RW _ _ _ _ _ a _) (fun lr84 => ?_)
 refine draw_act (i := 31) [(30, ⟨r71, 0, none⟩, iV 1), (30, ⟨r71, 1, none⟩, iV 0), (30, ⟨r71, 2, none⟩, uV 2)] (by kernel_rfl) (by kernel_rfl) ?_
 refine yCl 136 Try.call16 (ldesc 0 2) h83 ?_
 rintro v K w85 (⟨rfl, rfl⟩) h86
 refine ⟨_, rfl, ?_⟩
 have h87 := ap0 h86
 refine ⟨(AllC_cons (sat_cell h87 1 rfl rfl) (AllC_cons (sat_cell h87 1 rfl rfl) (AllC_cons (sat_cell h87 1 rfl rfl) (AllC_nil _)))), ?_⟩
 refine draw_law (i := 32) 137 (.bool true) [] (by kernel_rfl) (fun _ _ => seq28_eql_t (o := opA (RA Try.f18 [1, 1, 1, 1, 1, 1, 1, 1, 1, 1, 1, 1, 0]) 32) (x := (Operand.tmp 135)) (y := (Operand.tmp 136)) 1 0 2 1 0 2 (by kernel_rfl) (by kernel_rfl) (by kernel_rfl) ⟨rfl, rfl, rfl⟩ _) (by intro q hq; cases hq) ?_
 refine yD _ [(144, pV b2), (143, .bool true), (142, .bool true), (141, .bool true), (140, iV 7), (139, .bool true), (138, .bool true)] [e0 33, e0 34, e0 35, e0 36, e0 37, e0 38, e0 39] [] [] trivial nC ?_
 refine draw_act (i := 40) [(30, ⟨r71, 0, none⟩, iV 1), (30, ⟨r71, 1, none⟩, iV 0), (30, ⟨r71, 2, none⟩, uV 2)] (by kernel_rfl) (by kernel_rfl) ?_
 refine yCl 145 Try.call22 ((by have h_ := tlen_ht b2 2 [(1, 2), (0, 2)] [(0, ⟨(1, 0, 2), 2, (5, 1)⟩)] ([⟨(1, 0, 1), 1, 0, 0, 0, [109, 97, 105, 110]⟩, ⟨(1, 1, 1), 1, 0, 0, 0, [120]⟩]); exact h_)) h87 ?_
 rintro v K w88 (⟨rfl, rfl⟩) h89
 refine ⟨_, rfl, ?_⟩
 have h90 := ap1 h89
 refine ⟨(AllC_cons (sat_cell h90 1 rfl rfl) (AllC_cons (sat_cell h90 1 rfl rfl) (AllC_cons (sat_cell h90 1 rfl rfl) (AllC_nil _)))), ?_⟩
 refine yD _ [(0, .bool true), (147, .bool true), (146, .bool true)] [e0 41, e0 42, e0 43] [] [] trivial nC ?_
 refine yK [(0, .bool true)] fun lr91 => ?_
 refine yRt ?_
 repeat (first | simp only [Exit.inBlock] | simp only [Exit.then])
 have h92 := tk1 (sf5 h90)
 refine hi_out [] (.bool true) [] (by kernel_rfl) (by intro q hq; cases hq) ?_
 exact ⟨.bool true, [], rfl, ⟨rfl, rfl⟩, h92⟩

end Go.Proofs.Ytjjpmehiolejgaa
