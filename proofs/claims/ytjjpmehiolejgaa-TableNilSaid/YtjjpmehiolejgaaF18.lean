/- Walks, printed by my generator gen18.py. -/
import Derived.Test.YtjjpmehiolejgaaF16
import Derived.Test.YtjjpmehiolejgaaF17
namespace Go.Proofs.Ytjjpmehiolejgaa
theorem mem_vals {E : Tm} {k : Int} {e : Ety} (h : gget E k = some e) : ∃ q ∈ E, q.2 = e := by
  induction E with
  | nil => cases h
  | cons q E ih =>
    obtain ⟨a, v⟩ := q
    simp only [gget] at h
    split at h
    · exact ⟨_, List.mem_cons_self, Option.some.inj h⟩
    · obtain ⟨q, h1, h2⟩ := ih h
      exact ⟨q, List.mem_cons_of_mem _ h1, h2⟩
theorem not_has {E : Tm} {p : Int × Int} (h : ∀ q ∈ E, q.2.h ≠ p) : ∀ e ∈ allE E, e.h ≠ p := fun e he => by
  obtain ⟨k, _, hk⟩ := List.mem_filterMap.1 he
  obtain ⟨q, h1, h2⟩ := mem_vals hk
  rw [← h2]
  exact h q h1
theorem has_at {E : Tm} {p : Int × Int} (k : Nat) (e : Ety) (h : gget E (k : Int) = some e) (hk : k < 256) (he : e.h = p) : ∃ e ∈ allE E, e.h = p := ⟨e, List.mem_of_getElem? (allE_at h hk), he⟩
theorem tnew_lit (n : Nat) (gn : Int) (hn : 1 ≤ n ∧ n ≤ 256) (hgn : 1 ≤ gn ∧ gn ≤ 4294967295) (A2 : List Sl2) (hA : List.replicate n (0, gn) = A2) : HT Try.prog 11 [Value.int IntKind.i64 (((n : Nat) : Int)), Value.int IntKind.u32 gn] [] (fun v K => ∃ b : Nat, v = Value.tuple #[Value.pointer (some ⟨b, 0, none⟩), Value.int .i64 0] ∧ K = [Tab b n A2 [] []]) := by
  subst hA
  exact tnew_ok n gn hn hgn
theorem topen_lit (b n : Nat) (A : List Sl2) (E : Tm) (RL : List Rs) (x y z hx hy : Int) (L : List UInt8) (hz0 : 0 ≤ z) (hz1 : z ≤ 4294967295) (hm : L.length ≤ 1099511627776) (ho : 1 ≤ x ∧ x ≤ 3 ∧ 0 ≤ y ∧ y ≤ 63 ∧ 1 ≤ z) (ht : tagE L = 0) (hob : 0 ≤ hx ∧ hx ≤ 255 ∧ 1 ≤ hy) (hc : ∀ r ∈ RL, r.out ≠ (x, y, z)) (hh : ∀ e ∈ allE E, e.h ≠ (hx, hy)) (hl : RL.length < 2000) (j : Nat) (gj : Int) (hj : (inS 0 A 0)[0]? = some (j, gj)) (hfl_ : 1 ≤ (inS 0 A 0).length) (jz : Int) (hjz : (j : Int) = jz) (A2 : List Sl2) (E2 : Tm) (R2 : List Rs) (hA : A.set j (1, gj) = A2) (hE : gset E (j : Int) ⟨(x, (j : Int), gj), (RL.length : Int) + 1, (hx, hy)⟩ = E2) (hR : RL ++ [(⟨(x, y, z), 1, 0, 0, 0, L⟩ : Rs)] = R2) : HT Try.prog 12 [Value.pointer (some ⟨b, 0, none⟩), Value.agg #[Value.int IntKind.i64 x, Value.int IntKind.i64 y, Value.int IntKind.u32 z], Value.string (St L), Value.agg #[Value.int IntKind.i64 hx, Value.int IntKind.u32 hy]] [Tab b n A E RL] (fun v K => v = Value.tuple #[Value.agg #[Value.int IntKind.i64 x, Value.int IntKind.i64 jz, Value.int IntKind.u32 gj], Value.int IntKind.i64 0] ∧ K = [Tab b n A2 E2 R2]) := by
  subst hA
  subst hE
  subst hR
  subst hjz
  exact topen_ok b n A E RL x y z hx hy L hz0 hz1 hm ho ht hob hc hh hl j gj hj hfl_
theorem tdup_lit (b n : Nat) (A : List Sl2) (E : Tm) (RL : List Rs) (x y z hx hy : Int) (hob : 0 ≤ hx ∧ hx ≤ 255 ∧ 1 ≤ hy) (e : Ety) (hz0 : 0 ≤ z) (hz1 : z ≤ 4294967295) (ho : 1 ≤ x ∧ x ≤ 3 ∧ 0 ≤ y ∧ y ≤ 255 ∧ 1 ≤ z) (hg_ : gget E y = some e) (hd_ : e.d.1 = x ∧ e.d.2.1 = y ∧ e.d.2.2 = z) (hh : ∀ e ∈ allE E, e.h ≠ (hx, hy)) (q : Nat) (r : Rs) (hr : RL[q]? = some r) (hv : e.num = (q : Int) + 1) (j : Nat) (gj : Int) (hj : (inS 0 A 0)[0]? = some (j, gj)) (hfl_ : 1 ≤ (inS 0 A 0).length) (jz kz : Int) (hjz : (j : Int) = jz) (hkz : r.out.1 = kz) (A2 : List Sl2) (E2 : Tm) (hA : A.set j (1, gj) = A2) (hE : gset E (j : Int) ⟨(r.out.1, (j : Int), gj), e.num, (hx, hy)⟩ = E2) : HT Try.prog 14 [Value.pointer (some ⟨b, 0, none⟩), Value.agg #[Value.int IntKind.i64 x, Value.int IntKind.i64 y, Value.int IntKind.u32 z], Value.agg #[Value.int IntKind.i64 hx, Value.int IntKind.u32 hy]] [Tab b n A E RL] (fun v K => v = Value.tuple #[Value.agg #[Value.int IntKind.i64 kz, Value.int IntKind.i64 jz, Value.int IntKind.u32 gj], Value.int IntKind.i64 0] ∧ K = [Tab b n A2 E2 RL]) := by
  subst hA
  subst hE
  subst hjz
  subst hkz
  exact tdup_ok b n A E RL x y z hx hy hob e hz0 hz1 ho hg_ hd_ hh q r hr hv j gj hj hfl_
theorem tclose_lit (b n : Nat) (A : List Sl2) (E : Tm) (RL : List Rs) (x y z : Int) (e : Ety) (hz0 : 0 ≤ z) (hz1 : z ≤ 4294967295) (ho : 1 ≤ x ∧ x ≤ 3 ∧ 0 ≤ y ∧ y ≤ 255 ∧ 1 ≤ z) (hg_ : gget E y = some e) (hd_ : e.d.1 = x ∧ e.d.2.1 = y ∧ e.d.2.2 = z) (q : Nat) (s : Sl2) (hs : A[q]? = some s) (hs_ : y = (q : Int) ∧ s.1 = 1 ∧ s.2 = z) (hnum : 1 ≤ e.num ∧ e.num ≤ (RL.length : Int)) (nz : Int) (hnz : e.num = nz) (lb : Bool) (hlb : decide ((descs (gdel E y) e.num).length = 0) = lb) (A2 : List Sl2) (E2 : Tm) (hA : giveA A q z = A2) (hE : gdel E y = E2) : HT Try.prog 15 [Value.pointer (some ⟨b, 0, none⟩), Value.agg #[Value.int IntKind.i64 x, Value.int IntKind.i64 y, Value.int IntKind.u32 z]] [Tab b n A E RL] (fun v K => v = Value.tuple #[Value.int .i64 nz, Value.bool lb, Value.int .i64 0] ∧ K = [Tab b n A2 E2 RL]) := by
  subst hA
  subst hE
  subst hlb
  subst hnz
  exact tclose_ok b n A E RL x y z e hz0 hz1 ho hg_ hd_ q s hs hs_ hnum
theorem seq28_eql_t {n : Nat} {l : Fr} {o : Oper} {x y : Operand} (a0 : Int) (a1 : Int) (a2 : Int) (c0 : Int) (c1 : Int) (c2 : Int) (ho : o.op = .binOp .eql 28 x y 28) (hx : fe n l x = .agg #[.int .i64 a0, .int .i64 a1, .int .u32 a2]) (hy : fe n l y = .agg #[.int .i64 c0, .int .i64 c1, .int .u32 c2]) (h : a0 = c0 ∧ a1 = c1 ∧ a2 = c2) (w : World) : (execOp (fe n l) o).run Try.prog w = .ok (.value (.bool true)) w := by
  obtain ⟨rfl, rfl, rfl⟩ := h
  simp [execOp, ho, hx, hy, go_sem]
set_option maxHeartbeats 4000000 in
theorem lfile (y z : Int) : HT Try.prog 13 [Value.int IntKind.i64 y, Value.int IntKind.u32 z] [] (fun v K => v = Value.agg #[Value.int IntKind.i64 1, Value.int IntKind.i64 y, Value.int IntKind.u32 z] ∧ K = []) := by
  refine hi_in 8 ([(0, iV y), (1, uV z)] : Fr) Try.func13 (by kernel_rfl) Try.ntmps13 rfl rfl ?_
  intro g w0 R h0
  change WP _ _ (CA Try.f13 []) _ _ _
  refine zSq (by kernel_rfl) ?_
  refine zPl [0] (by kernel_rfl) ?_
  refine plain_act (i := 0) (by kernel_rfl) ?_
  refine an_new (d := 4) (fun xb_ => pV xb_) (fun xb_ => Obj.cells [iV 0, iV 0, uV 0].toArray 32 (0, 0)) (fun xb_ => by kernel_rfl) (by kernel_rfl) rfl h0 ?_
  intro r1 w2 (h3 : sat g w2 [Cl r1 [iV 0, iV 0, uV 0] 32, R])
  refine PO.mk ?_
  change WP _ _ (CA Try.f13 [1]) _ _ _
  refine fk_cut ([(0, iV y), (1, uV z), (4, pV r1)] : Fr) (by kernel_rfl) (fun a => WP _ _ _ _ a _) (fun lr4 => ?_)
  refine zSq (by kernel_rfl) ?_
  refine zPl [0, 1, 2, 3] (by kernel_rfl) ?_
  refine zB0 [3] [0, 1, 2] [(7, .agg #[iV 1, iV y, uV z]), (6, uV z), (5, iV y)] (by kernel_rfl) ?_
  refine plain_act (i := 3) (by kernel_rfl) ?_
  refine an_store [(0, iV 1), (1, iV y), (2, uV z)] (cs' := [iV 1, iV y, uV z]) (by kernel_rfl) (by kernel_rfl) (allq ⟨⟨by simp, rfl⟩, ⟨by simp, rfl⟩, ⟨by simp, rfl⟩, trivial⟩) rfl h3 ?_
  intro w5 (h6 : sat g w5 [Cl r1 [iV 1, iV y, uV z] 32, R])
  refine PO.mk ?_
  change WP _ _ (CA Try.f13 [1, 1]) _ _ _
  refine fk_cut ([(4, pV r1)] : Fr) (by kernel_rfl) (fun a => WP _ _ _ _ a _) (fun lr7 => ?_)
  refine gi_rt (by kernel_rfl) ?_
  repeat (first | simp only [Exit.inBlock] | simp only [Exit.then])
  have h8 : sat g w5 [R] := sat_sel [1] rfl h6
  refine hi_out [iV 1, iV y, uV z] (.agg #[iV 1, iV y, uV z]) [(⟨r1, 0, none⟩, iV 1), (⟨r1, 1, none⟩, iV y), (⟨r1, 2, none⟩, uV z)] (by kernel_rfl) (allq ⟨sat_cell h6 0 rfl rfl, sat_cell h6 0 rfl rfl, sat_cell h6 0 rfl rfl, trivial⟩) ?_
  exact ⟨.agg #[iV 1, iV y, uV z], [], rfl, ⟨rfl, rfl⟩, h8⟩

set_option maxHeartbeats 4000000 in
theorem ldesc (y z : Int) : HT Try.prog 16 [Value.int IntKind.i64 y, Value.int IntKind.u32 z] [] (fun v K => v = Value.agg #[Value.int IntKind.i64 1, Value.int IntKind.i64 y, Value.int IntKind.u32 z] ∧ K = []) := by
  refine hi_in 8 ([(0, iV y), (1, uV z)] : Fr) Try.func16 (by kernel_rfl) Try.ntmps16 rfl rfl ?_
  intro g w0 R h0
  change WP _ _ (CA Try.f16 []) _ _ _
  refine zSq (by kernel_rfl) ?_
  refine zPl [0] (by kernel_rfl) ?_
  refine plain_act (i := 0) (by kernel_rfl) ?_
  refine an_new (d := 4) (fun xb_ => pV xb_) (fun xb_ => Obj.cells [iV 0, iV 0, uV 0].toArray 28 (0, 0)) (fun xb_ => by kernel_rfl) (by kernel_rfl) rfl h0 ?_
  intro r1 w2 (h3 : sat g w2 [Cl r1 [iV 0, iV 0, uV 0] 28, R])
  refine PO.mk ?_
  change WP _ _ (CA Try.f16 [1]) _ _ _
  refine fk_cut ([(0, iV y), (1, uV z), (4, pV r1)] : Fr) (by kernel_rfl) (fun a => WP _ _ _ _ a _) (fun lr4 => ?_)
  refine zSq (by kernel_rfl) ?_
  refine zPl [0, 1, 2, 3] (by kernel_rfl) ?_
  refine zB0 [3] [0, 1, 2] [(7, .agg #[iV 1, iV y, uV z]), (6, uV z), (5, iV y)] (by kernel_rfl) ?_
  refine plain_act (i := 3) (by kernel_rfl) ?_
  refine an_store [(0, iV 1), (1, iV y), (2, uV z)] (cs' := [iV 1, iV y, uV z]) (by kernel_rfl) (by kernel_rfl) (allq ⟨⟨by simp, rfl⟩, ⟨by simp, rfl⟩, ⟨by simp, rfl⟩, trivial⟩) rfl h3 ?_
  intro w5 (h6 : sat g w5 [Cl r1 [iV 1, iV y, uV z] 28, R])
  refine PO.mk ?_
  change WP _ _ (CA Try.f16 [1, 1]) _ _ _
  refine fk_cut ([(4, pV r1)] : Fr) (by kernel_rfl) (fun a => WP _ _ _ _ a _) (fun lr7 => ?_)
  refine gi_rt (by kernel_rfl) ?_
  repeat (first | simp only [Exit.inBlock] | simp only [Exit.then])
  have h8 : sat g w5 [R] := sat_sel [1] rfl h6
  refine hi_out [iV 1, iV y, uV z] (.agg #[iV 1, iV y, uV z]) [(⟨r1, 0, none⟩, iV 1), (⟨r1, 1, none⟩, iV y), (⟨r1, 2, none⟩, uV z)] (by kernel_rfl) (allq ⟨sat_cell h6 0 rfl rfl, sat_cell h6 0 rfl rfl, sat_cell h6 0 rfl rfl, trivial⟩) ?_
  exact ⟨.agg #[iV 1, iV y, uV z], [], rfl, ⟨rfl, rfl⟩, h8⟩

set_option maxHeartbeats 4000000 in
theorem works_ht  : HT Try.prog 18 [] [] (fun v K => v = Value.bool true ∧ K = []) := by
  refine hi_in 148 ([] : Fr) Try.func18 (by kernel_rfl) Try.ntmps18 rfl rfl ?_
  intro g w0 R h0
  change WP _ _ (CA Try.f18 []) _ _ _
  refine zSq (by kernel_rfl) ?_
  refine zPl [0] (by kernel_rfl) ?_
  refine zB0 [] [0] [(0, .bool false)] (by kernel_rfl) ?_
  refine PO.mk ?_
  change WP _ _ (CA Try.f18 [1]) _ _ _
  refine fk_cut ([] : Fr) (by kernel_rfl) (fun a => WP _ _ _ _ a _) (fun lr1 => ?_)
  refine zSq (by kernel_rfl) ?_
  refine zPl [0, 1, 2, 3, 4, 5] (by kernel_rfl) ?_
  refine plain_act (i := 0) (by kernel_rfl) ?_
  refine zCl 22 Try.call11 (tnew_lit 2 1 (by omega) (by omega) [(0, 1), (0, 1)] (by kernel_rfl)) h0 (by kernel_rfl) ?_
  rintro v K w3 (⟨b2, rfl, rfl⟩) h4
  refine ⟨_, rfl, ?_⟩
  have h5 : sat g w3 [Tab b2 2 [(0, 1), (0, 1)] [] [], R] := h4
  refine zB0 [] [1, 2, 3, 4, 5] [(2, iV 0), (1, pV b2), (24, iV 0), (23, pV b2), (21, .tuple #[pV b2, iV 0])] (by kernel_rfl) ?_
  refine PO.mk ?_
  change WP _ _ (CA Try.f18 [1, 1]) _ _ _
  refine fk_cut ([(1, pV b2), (2, iV 0)] : Fr) (by kernel_rfl) (fun a => WP _ _ _ _ a _) (fun lr6 => ?_)
  refine zSq (by kernel_rfl) ?_
  refine zSq (by kernel_rfl) ?_
  refine zPl [0, 1, 2, 3, 4, 5] (by kernel_rfl) ?_
  refine zB0 [] [0, 1, 2, 3, 4, 5] [(30, .bool false), (29, .bool false), (28, pV b2), (27, .bool false), (26, .bool false), (25, iV 0)] (by kernel_rfl) ?_
  refine PO.mk ?_
  change WP _ _ (CA Try.f18 [1, 1, 0, 1]) _ _ _
  refine fk_cut ([(1, pV b2), (30, .bool false)] : Fr) (by kernel_rfl) (fun a => WP _ _ _ _ a _) (fun lr7 => ?_)
  refine zCf (by kernel_rfl) ?_
  refine gi_skp (by kernel_rfl) ?_
  change WP _ _ (CA Try.f18 [1, 1, 1]) _ _ _
  refine zSq (by kernel_rfl) ?_
  refine zPl [0, 1, 2, 3, 4, 5, 6, 7, 8, 9] (by kernel_rfl) ?_
  refine zB0 [1, 2, 3, 4, 5, 6, 7, 8, 9] [0] [(32, pV b2)] (by kernel_rfl) ?_
  refine plain_act (i := 1) (by kernel_rfl) ?_
  refine zCl 33 Try.call13 (lfile 0 1) h5 (by kernel_rfl) ?_
  rintro v K w8 (⟨rfl, rfl⟩) h9
  refine ⟨_, rfl, ?_⟩
  have h10 : sat g w8 [Tab b2 2 [(0, 1), (0, 1)] [] [], R] := h9
  refine zB0 [3, 4, 5, 6, 7, 8, 9] [2] [(34, .agg #[iV 5, uV 1])] (by kernel_rfl) ?_
  refine plain_act (i := 3) (by kernel_rfl) ?_
  refine zCl 35 Try.call12 (topen_lit b2 2 [(0, 1), (0, 1)] [] [] (1) (0) (1) (5) (1) [109, 97, 105, 110] (by omega) (by omega) (by simp only [List.length_cons, List.length_nil]; omega) (by omega) (by kernel_rfl) (by omega) (by decide) (not_has (by decide)) (by decide) 0 1 (by kernel_rfl) (by decide) 0 rfl [(1, 1), (0, 1)] [(0, ⟨(1, 0, 1), 1, (5, 1)⟩)] [⟨(1, 0, 1), 1, 0, 0, 0, [109, 97, 105, 110]⟩] (by kernel_rfl) (by kernel_rfl) (by kernel_rfl)) h10 (by kernel_rfl) ?_
  rintro v K w11 (⟨rfl, rfl⟩) h12
  refine ⟨_, rfl, ?_⟩
  have h13 : sat g w11 [Tab b2 2 [(1, 1), (0, 1)] [(0, ⟨(1, 0, 1), 1, (5, 1)⟩)] ([⟨(1, 0, 1), 1, 0, 0, 0, [109, 97, 105, 110]⟩]), R] := h12
  refine zB0 [7, 8, 9] [4, 5, 6] [(37, iV 0), (36, .agg #[iV 1, iV 0, uV 1]), (31, .tuple #[.agg #[iV 1, iV 0, uV 1], iV 0])] (by kernel_rfl) ?_
  refine plain_act (i := 7) (by kernel_rfl) ?_
  refine an_new (d := 3) (fun xb_ => pV xb_) (fun xb_ => Obj.cells [iV 0, iV 0, uV 0].toArray 28 (0, 0)) (fun xb_ => by kernel_rfl) (by kernel_rfl) rfl h13 ?_
  intro r14 w15 (h16 : sat g w15 [Cl r14 [iV 0, iV 0, uV 0] 28, Tab b2 2 [(1, 1), (0, 1)] [(0, ⟨(1, 0, 1), 1, (5, 1)⟩)] ([⟨(1, 0, 1), 1, 0, 0, 0, [109, 97, 105, 110]⟩]), R])
  refine plain_act (i := 8) (by kernel_rfl) ?_
  refine an_store [(0, iV 1), (1, iV 0), (2, uV 1)] (cs' := [iV 1, iV 0, uV 1]) (by kernel_rfl) (by kernel_rfl) (allq ⟨⟨by simp, rfl⟩, ⟨by simp, rfl⟩, ⟨by simp, rfl⟩, trivial⟩) rfl h16 ?_
  intro w17 (h18 : sat g w17 [Cl r14 [iV 1, iV 0, uV 1] 28, Tab b2 2 [(1, 1), (0, 1)] [(0, ⟨(1, 0, 1), 1, (5, 1)⟩)] ([⟨(1, 0, 1), 1, 0, 0, 0, [109, 97, 105, 110]⟩]), R])
  refine zB0 [] [9] [(4, iV 0)] (by kernel_rfl) ?_
  refine PO.mk ?_
  change WP _ _ (CA Try.f18 [1, 1, 1, 1]) _ _ _
  refine fk_cut ([(1, pV b2), (3, pV r14), (4, iV 0)] : Fr) (by kernel_rfl) (fun a => WP _ _ _ _ a _) (fun lr19 => ?_)
  refine zSq (by kernel_rfl) ?_
  refine zPl [0, 1, 2, 3, 4, 5, 6, 7, 8, 9] (by kernel_rfl) ?_
  refine zB0 [1, 2, 3, 4, 5, 6, 7, 8, 9] [0] [(39, pV b2)] (by kernel_rfl) ?_
  refine plain_act (i := 1) (by kernel_rfl) ?_
  refine zCl 40 Try.call13 (lfile 1 1) h18 (by kernel_rfl) ?_
  rintro v K w20 (⟨rfl, rfl⟩) h21
  refine ⟨_, rfl, ?_⟩
  have h22 : sat g w20 [Cl r14 [iV 1, iV 0, uV 1] 28, Tab b2 2 [(1, 1), (0, 1)] [(0, ⟨(1, 0, 1), 1, (5, 1)⟩)] ([⟨(1, 0, 1), 1, 0, 0, 0, [109, 97, 105, 110]⟩]), R] := h21
  refine zB0 [3, 4, 5, 6, 7, 8, 9] [2] [(41, .agg #[iV 5, uV 1])] (by kernel_rfl) ?_
  have h23 : sat g w20 [Tab b2 2 [(1, 1), (0, 1)] [(0, ⟨(1, 0, 1), 1, (5, 1)⟩)] ([⟨(1, 0, 1), 1, 0, 0, 0, [109, 97, 105, 110]⟩]), Cl r14 [iV 1, iV 0, uV 1] 28, R] := sat_sel [1, 0, 2] rfl h22
  refine plain_act (i := 3) (by kernel_rfl) ?_
  refine zCl 42 Try.call12 (topen_have b2 2 [(1, 1), (0, 1)] [(0, ⟨(1, 0, 1), 1, (5, 1)⟩)] ([⟨(1, 0, 1), 1, 0, 0, 0, [109, 97, 105, 110]⟩]) (1) (1) (1) (5) (1) [120] (by omega) (by omega) (by simp only [List.length_cons, List.length_nil]; omega) (by omega) (by kernel_rfl) (by omega) (by decide) (has_at 0 ⟨(1, 0, 1), 1, (5, 1)⟩ (by kernel_rfl) (by decide) rfl)) h23 (by kernel_rfl) ?_
  rintro v K w24 (⟨rfl, rfl⟩) h25
  refine ⟨_, rfl, ?_⟩
  have h26 : sat g w24 [Tab b2 2 [(1, 1), (0, 1)] [(0, ⟨(1, 0, 1), 1, (5, 1)⟩)] ([⟨(1, 0, 1), 1, 0, 0, 0, [109, 97, 105, 110]⟩]), Cl r14 [iV 1, iV 0, uV 1] 28, R] := h25
  refine zB0 [7, 8, 9] [4, 5, 6] [(44, iV 6), (43, .agg #[iV 0, iV 0, uV 0]), (38, .tuple #[.agg #[iV 0, iV 0, uV 0], iV 6])] (by kernel_rfl) ?_
  refine plain_act (i := 7) (by kernel_rfl) ?_
  refine an_new (d := 5) (fun xb_ => pV xb_) (fun xb_ => Obj.cells [iV 0, iV 0, uV 0].toArray 28 (0, 0)) (fun xb_ => by kernel_rfl) (by kernel_rfl) rfl h26 ?_
  intro r27 w28 (h29 : sat g w28 [Cl r27 [iV 0, iV 0, uV 0] 28, Tab b2 2 [(1, 1), (0, 1)] [(0, ⟨(1, 0, 1), 1, (5, 1)⟩)] ([⟨(1, 0, 1), 1, 0, 0, 0, [109, 97, 105, 110]⟩]), Cl r14 [iV 1, iV 0, uV 1] 28, R])
  refine plain_act (i := 8) (by kernel_rfl) ?_
  refine an_store [(0, iV 0), (1, iV 0), (2, uV 0)] (cs' := [iV 0, iV 0, uV 0]) (by kernel_rfl) (by kernel_rfl) (allq ⟨⟨by simp, rfl⟩, ⟨by simp, rfl⟩, ⟨by simp, rfl⟩, trivial⟩) rfl h29 ?_
  intro w30 (h31 : sat g w30 [Cl r27 [iV 0, iV 0, uV 0] 28, Tab b2 2 [(1, 1), (0, 1)] [(0, ⟨(1, 0, 1), 1, (5, 1)⟩)] ([⟨(1, 0, 1), 1, 0, 0, 0, [109, 97, 105, 110]⟩]), Cl r14 [iV 1, iV 0, uV 1] 28, R])
  refine zB0 [] [9] [(6, iV 6)] (by kernel_rfl) ?_
  refine PO.mk ?_
  change WP _ _ (CA Try.f18 [1, 1, 1, 1, 1]) _ _ _
  refine fk_cut ([(1, pV b2), (3, pV r14), (4, iV 0), (6, iV 6)] : Fr) (by kernel_rfl) (fun a => WP _ _ _ _ a _) (fun lr32 => ?_)
  refine zSq (by kernel_rfl) ?_
  refine zPl [0, 1, 2, 3, 4, 5, 6, 7, 8, 9] (by kernel_rfl) ?_
  refine zBb [3, 4, 5, 6, 7, 8, 9] [(48, .agg #[iV 6, uV 1]), (47, .agg #[iV 1, iV 0, uV 1]), (46, pV b2)] [⟨0, [], none⟩, ⟨1, [iV 1, iV 0, uV 1], none⟩, ⟨2, [], none⟩] [(1, ⟨r14, 0, none⟩, iV 1), (1, ⟨r14, 1, none⟩, iV 0), (1, ⟨r14, 2, none⟩, uV 1)] [] (by kernel_rfl) trivial (AllC_cons (sat_cell h31 2 rfl rfl) (AllC_cons (sat_cell h31 2 rfl rfl) (AllC_cons (sat_cell h31 2 rfl rfl) (AllC_nil _)))) ?_
  have h33 : sat g w30 [Tab b2 2 [(1, 1), (0, 1)] [(0, ⟨(1, 0, 1), 1, (5, 1)⟩)] ([⟨(1, 0, 1), 1, 0, 0, 0, [109, 97, 105, 110]⟩]), Cl r27 [iV 0, iV 0, uV 0] 28, Cl r14 [iV 1, iV 0, uV 1] 28, R] := sat_sel [1, 0, 2, 3] rfl h31
  refine plain_act (i := 3) (by kernel_rfl) ?_
  refine zCl 49 Try.call14 (tdup_lit b2 2 [(1, 1), (0, 1)] [(0, ⟨(1, 0, 1), 1, (5, 1)⟩)] ([⟨(1, 0, 1), 1, 0, 0, 0, [109, 97, 105, 110]⟩]) 1 0 1 6 1 (by omega) ⟨(1, 0, 1), 1, (5, 1)⟩ (by omega) (by omega) (by omega) (by kernel_rfl) (by decide) (not_has (by decide)) 0 ⟨(1, 0, 1), 1, 0, 0, 0, [109, 97, 105, 110]⟩ rfl (by decide) 1 1 (by kernel_rfl) (by decide) 1 1 rfl rfl [(1, 1), (1, 1)] [(0, ⟨(1, 0, 1), 1, (5, 1)⟩), (1, ⟨(1, 1, 1), 1, (6, 1)⟩)] (by kernel_rfl) (by kernel_rfl)) h33 (by kernel_rfl) ?_
  rintro v K w34 (⟨rfl, rfl⟩) h35
  refine ⟨_, rfl, ?_⟩
  have h36 : sat g w34 [Tab b2 2 [(1, 1), (1, 1)] [(0, ⟨(1, 0, 1), 1, (5, 1)⟩), (1, ⟨(1, 1, 1), 1, (6, 1)⟩)] ([⟨(1, 0, 1), 1, 0, 0, 0, [109, 97, 105, 110]⟩]), Cl r27 [iV 0, iV 0, uV 0] 28, Cl r14 [iV 1, iV 0, uV 1] 28, R] := h35
  refine zB0 [7, 8, 9] [4, 5, 6] [(51, iV 0), (50, .agg #[iV 1, iV 1, uV 1]), (45, .tuple #[.agg #[iV 1, iV 1, uV 1], iV 0])] (by kernel_rfl) ?_
  refine plain_act (i := 7) (by kernel_rfl) ?_
  refine an_new (d := 7) (fun xb_ => pV xb_) (fun xb_ => Obj.cells [iV 0, iV 0, uV 0].toArray 28 (0, 0)) (fun xb_ => by kernel_rfl) (by kernel_rfl) rfl h36 ?_
  intro r37 w38 (h39 : sat g w38 [Cl r37 [iV 0, iV 0, uV 0] 28, Tab b2 2 [(1, 1), (1, 1)] [(0, ⟨(1, 0, 1), 1, (5, 1)⟩), (1, ⟨(1, 1, 1), 1, (6, 1)⟩)] ([⟨(1, 0, 1), 1, 0, 0, 0, [109, 97, 105, 110]⟩]), Cl r27 [iV 0, iV 0, uV 0] 28, Cl r14 [iV 1, iV 0, uV 1] 28, R])
  refine plain_act (i := 8) (by kernel_rfl) ?_
  refine an_store [(0, iV 1), (1, iV 1), (2, uV 1)] (cs' := [iV 1, iV 1, uV 1]) (by kernel_rfl) (by kernel_rfl) (allq ⟨⟨by simp, rfl⟩, ⟨by simp, rfl⟩, ⟨by simp, rfl⟩, trivial⟩) rfl h39 ?_
  intro w40 (h41 : sat g w40 [Cl r37 [iV 1, iV 1, uV 1] 28, Tab b2 2 [(1, 1), (1, 1)] [(0, ⟨(1, 0, 1), 1, (5, 1)⟩), (1, ⟨(1, 1, 1), 1, (6, 1)⟩)] ([⟨(1, 0, 1), 1, 0, 0, 0, [109, 97, 105, 110]⟩]), Cl r27 [iV 0, iV 0, uV 0] 28, Cl r14 [iV 1, iV 0, uV 1] 28, R])
  refine zB0 [] [9] [(8, iV 0)] (by kernel_rfl) ?_
  refine PO.mk ?_
  change WP _ _ (CA Try.f18 [1, 1, 1, 1, 1, 1]) _ _ _
  refine fk_cut ([(1, pV b2), (3, pV r14), (4, iV 0), (6, iV 6), (7, pV r37), (8, iV 0)] : Fr) (by kernel_rfl) (fun a => WP _ _ _ _ a _) (fun lr42 => ?_)
  refine zSq (by kernel_rfl) ?_
  refine zSq (by kernel_rfl) ?_
  refine gi_drw (id := 7) (ops := RA Try.f18 [1, 1, 1, 1, 1, 1, 0, 0]) (Tr.fl 0 (Tr.fl 1 (Tr.fl 2 (Tr.fl 3 (Tr.an 4 (Tr.fl 5 (Tr.fl 6 (Tr.fl 7 (Tr.fl 8 (Tr.fl 9 (Tr.fl 10 (Tr.fl 11 (Tr.fl 12 (Tr.fl 13 (Tr.fl 14 (Tr.fl 15 (Tr.fl 16 (Tr.an 17 (Tr.fl 18 (Tr.fl 19 Tr.nil)))))))))))))))))))) (by kernel_rfl) (by kernel_rfl) (by kernel_rfl) (by kernel_rfl) (by kernel_rfl) (fun _ _ d _ _ h => by cases d <;> exact h) h41 ?_
  intro w43 h44
  refine draw_batch (t := (Tr.an 4 (Tr.fl 5 (Tr.fl 6 (Tr.fl 7 (Tr.fl 8 (Tr.fl 9 (Tr.fl 10 (Tr.fl 11 (Tr.fl 12 (Tr.fl 13 (Tr.fl 14 (Tr.fl 15 (Tr.fl 16 (Tr.an 17 (Tr.fl 18 (Tr.fl 19 Tr.nil))))))))))))))))) [⟨0, [], none⟩, ⟨1, [], none⟩, ⟨2, [], none⟩, ⟨3, [iV 1, iV 0, uV 1], none⟩] (l' := ([(55, .agg #[iV 1, iV 0, uV 1]), (54, .bool false), (53, .bool false), (52, iV 0), (1, pV b2), (3, pV r14), (4, iV 0), (6, iV 6), (7, pV r37), (8, iV 0)] : Fr) ++ lr42) (pts' := [(3, ⟨r14, 0, none⟩, iV 1), (3, ⟨r14, 1, none⟩, iV 0), (3, ⟨r14, 2, none⟩, uV 1)]) (eqs := []) (by kernel_rfl) trivial (AllC_cons (sat_cell h44 3 rfl rfl) (AllC_cons (sat_cell h44 3 rfl rfl) (AllC_cons (sat_cell h44 3 rfl rfl) (AllC_nil _)))) ?_
  refine draw_act (i := 4) [(3, ⟨r14, 0, none⟩, iV 1), (3, ⟨r14, 1, none⟩, iV 0), (3, ⟨r14, 2, none⟩, uV 1)] (by kernel_rfl) (by kernel_rfl) ?_
  refine zCl 56 Try.call16 (ldesc 0 1) h44 (by kernel_rfl) ?_
  rintro v K w45 (⟨rfl, rfl⟩) h46
  refine ⟨_, rfl, ?_⟩
  have h47 : sat g w45 [Cl r37 [iV 1, iV 1, uV 1] 28, Tab b2 2 [(1, 1), (1, 1)] [(0, ⟨(1, 0, 1), 1, (5, 1)⟩), (1, ⟨(1, 1, 1), 1, (6, 1)⟩)] ([⟨(1, 0, 1), 1, 0, 0, 0, [109, 97, 105, 110]⟩]), Cl r27 [iV 0, iV 0, uV 0] 28, Cl r14 [iV 1, iV 0, uV 1] 28, R] := h46
  refine ⟨(AllC_cons (sat_cell h47 3 rfl rfl) (AllC_cons (sat_cell h47 3 rfl rfl) (AllC_cons (sat_cell h47 3 rfl rfl) (AllC_nil _)))), ?_⟩
  refine draw_law (i := 5) 57 (.bool false) [] (by kernel_rfl) (fun _ _ => seq28_neq_t (o := opA (RA Try.f18 [1, 1, 1, 1, 1, 1, 0, 0]) 5) (x := (Operand.tmp 55)) (y := (Operand.tmp 56)) 1 0 1 1 0 1 (by kernel_rfl) (by kernel_rfl) (by kernel_rfl) ⟨rfl, rfl, rfl⟩ _) (by intro q hq; cases hq) ?_
  refine draw_batch (t := (Tr.an 17 (Tr.fl 18 (Tr.fl 19 Tr.nil)))) [⟨6, [], none⟩, ⟨7, [], none⟩, ⟨8, [], none⟩, ⟨9, [], none⟩, ⟨10, [], none⟩, ⟨11, [], none⟩, ⟨12, [], none⟩, ⟨13, [], none⟩, ⟨14, [], none⟩, ⟨15, [], none⟩, ⟨16, [iV 1, iV 1, uV 1], none⟩] (l' := ([(68, .agg #[iV 1, iV 1, uV 1]), (67, .bool false), (66, .bool false), (65, .bool false), (64, iV 0), (63, .bool false), (62, .bool false), (61, .bool false), (60, iV 6), (59, .bool false), (58, .bool false), (57, .bool false), (56, .agg #[iV 1, iV 0, uV 1]), (55, .agg #[iV 1, iV 0, uV 1]), (54, .bool false), (53, .bool false), (52, iV 0), (1, pV b2), (3, pV r14), (4, iV 0), (6, iV 6), (7, pV r37), (8, iV 0)] : Fr) ++ lr42) (pts' := [(16, ⟨r37, 0, none⟩, iV 1), (16, ⟨r37, 1, none⟩, iV 1), (16, ⟨r37, 2, none⟩, uV 1)]) (eqs := []) (by kernel_rfl) trivial (AllC_cons (sat_cell h47 0 rfl rfl) (AllC_cons (sat_cell h47 0 rfl rfl) (AllC_cons (sat_cell h47 0 rfl rfl) (AllC_nil _)))) ?_
  refine draw_act (i := 17) [(16, ⟨r37, 0, none⟩, iV 1), (16, ⟨r37, 1, none⟩, iV 1), (16, ⟨r37, 2, none⟩, uV 1), (3, ⟨r14, 0, none⟩, iV 1), (3, ⟨r14, 1, none⟩, iV 0), (3, ⟨r14, 2, none⟩, uV 1)] (by kernel_rfl) (by kernel_rfl) ?_
  refine zCl 69 Try.call16 (ldesc 1 1) h47 (by kernel_rfl) ?_
  rintro v K w48 (⟨rfl, rfl⟩) h49
  refine ⟨_, rfl, ?_⟩
  have h50 : sat g w48 [Cl r37 [iV 1, iV 1, uV 1] 28, Tab b2 2 [(1, 1), (1, 1)] [(0, ⟨(1, 0, 1), 1, (5, 1)⟩), (1, ⟨(1, 1, 1), 1, (6, 1)⟩)] ([⟨(1, 0, 1), 1, 0, 0, 0, [109, 97, 105, 110]⟩]), Cl r27 [iV 0, iV 0, uV 0] 28, Cl r14 [iV 1, iV 0, uV 1] 28, R] := h49
  refine ⟨(AllC_cons (sat_cell h50 0 rfl rfl) (AllC_cons (sat_cell h50 0 rfl rfl) (AllC_cons (sat_cell h50 0 rfl rfl) (AllC_cons (sat_cell h50 3 rfl rfl) (AllC_cons (sat_cell h50 3 rfl rfl) (AllC_cons (sat_cell h50 3 rfl rfl) (AllC_nil _))))))), ?_⟩
  refine draw_law (i := 18) 70 (.bool false) [] (by kernel_rfl) (fun _ _ => seq28_neq_t (o := opA (RA Try.f18 [1, 1, 1, 1, 1, 1, 0, 0]) 18) (x := (Operand.tmp 68)) (y := (Operand.tmp 69)) 1 1 1 1 1 1 (by kernel_rfl) (by kernel_rfl) (by kernel_rfl) ⟨rfl, rfl, rfl⟩ _) (by intro q hq; cases hq) ?_
  refine draw_batch (t := Tr.nil) [⟨19, [], none⟩] (l' := ([(71, .bool false), (70, .bool false), (69, .agg #[iV 1, iV 1, uV 1]), (68, .agg #[iV 1, iV 1, uV 1]), (67, .bool false), (66, .bool false), (65, .bool false), (64, iV 0), (63, .bool false), (62, .bool false), (61, .bool false), (60, iV 6), (59, .bool false), (58, .bool false), (57, .bool false), (56, .agg #[iV 1, iV 0, uV 1]), (55, .agg #[iV 1, iV 0, uV 1]), (54, .bool false), (53, .bool false), (52, iV 0), (1, pV b2), (3, pV r14), (4, iV 0), (6, iV 6), (7, pV r37), (8, iV 0)] : Fr) ++ lr42) (pts' := []) (eqs := []) (by kernel_rfl) trivial (AllC_nil _) ?_
  change WP _ _ (CA Try.f18 [1, 1, 1, 1, 1, 1, 0, 1]) _ _ _
  refine fk_cut ([(1, pV b2), (3, pV r14), (7, pV r37), (71, .bool false)] : Fr) (by kernel_rfl) (fun a => WP _ _ _ _ a _) (fun lr51 => ?_)
  refine zCf (by kernel_rfl) ?_
  refine gi_skp (by kernel_rfl) ?_
  change WP _ _ (CA Try.f18 [1, 1, 1, 1, 1, 1, 1]) _ _ _
  refine zSq (by kernel_rfl) ?_
  refine zPl [0, 1, 2, 3, 4, 5, 6, 7, 8, 9] (by kernel_rfl) ?_
  refine zBb [2, 3, 4, 5, 6, 7, 8, 9] [(74, .agg #[iV 1, iV 0, uV 1]), (73, pV b2)] [⟨0, [], none⟩, ⟨1, [iV 1, iV 0, uV 1], none⟩] [(1, ⟨r14, 0, none⟩, iV 1), (1, ⟨r14, 1, none⟩, iV 0), (1, ⟨r14, 2, none⟩, uV 1)] [] (by kernel_rfl) trivial (AllC_cons (sat_cell h50 3 rfl rfl) (AllC_cons (sat_cell h50 3 rfl rfl) (AllC_cons (sat_cell h50 3 rfl rfl) (AllC_nil _)))) ?_
  have h52 : sat g w48 [Tab b2 2 [(1, 1), (1, 1)] [(0, ⟨(1, 0, 1), 1, (5, 1)⟩), (1, ⟨(1, 1, 1), 1, (6, 1)⟩)] ([⟨(1, 0, 1), 1, 0, 0, 0, [109, 97, 105, 110]⟩]), Cl r37 [iV 1, iV 1, uV 1] 28, Cl r27 [iV 0, iV 0, uV 0] 28, Cl r14 [iV 1, iV 0, uV 1] 28, R] := sat_sel [1, 0, 2, 3, 4] rfl h50
  refine plain_act (i := 2) (by kernel_rfl) ?_
  refine zCl 75 Try.call15 (tclose_lit b2 2 [(1, 1), (1, 1)] [(0, ⟨(1, 0, 1), 1, (5, 1)⟩), (1, ⟨(1, 1, 1), 1, (6, 1)⟩)] ([⟨(1, 0, 1), 1, 0, 0, 0, [109, 97, 105, 110]⟩]) 1 0 1 ⟨(1, 0, 1), 1, (5, 1)⟩ (by omega) (by omega) (by omega) (by kernel_rfl) (by decide) 0 (1, 1) rfl (by decide) (by decide) 1 rfl false (by kernel_rfl) [(0, 2), (1, 1)] [(1, ⟨(1, 1, 1), 1, (6, 1)⟩)] (by kernel_rfl) (by kernel_rfl)) h52 (by kernel_rfl) ?_
  rintro v K w53 (⟨rfl, rfl⟩) h54
  refine ⟨_, rfl, ?_⟩
  have h55 : sat g w53 [Tab b2 2 [(0, 2), (1, 1)] [(1, ⟨(1, 1, 1), 1, (6, 1)⟩)] ([⟨(1, 0, 1), 1, 0, 0, 0, [109, 97, 105, 110]⟩]), Cl r37 [iV 1, iV 1, uV 1] 28, Cl r27 [iV 0, iV 0, uV 0] 28, Cl r14 [iV 1, iV 0, uV 1] 28, R] := h54
  refine zB0 [] [3, 4, 5, 6, 7, 8, 9] [(11, iV 0), (10, .bool false), (9, iV 1), (78, iV 0), (77, .bool false), (76, iV 1), (72, .tuple #[iV 1, .bool false, iV 0])] (by kernel_rfl) ?_
  refine PO.mk ?_
  change WP _ _ (CA Try.f18 [1, 1, 1, 1, 1, 1, 1, 1]) _ _ _
  refine fk_cut ([(1, pV b2), (3, pV r14), (7, pV r37), (9, iV 1), (10, .bool false), (11, iV 0)] : Fr) (by kernel_rfl) (fun a => WP _ _ _ _ a _) (fun lr56 => ?_)
  refine zSq (by kernel_rfl) ?_
  refine zPl [0, 1, 2, 3, 4, 5, 6, 7] (by kernel_rfl) ?_
  refine zBb [2, 3, 4, 5, 6, 7] [(81, .agg #[iV 1, iV 0, uV 1]), (80, pV b2)] [⟨0, [], none⟩, ⟨1, [iV 1, iV 0, uV 1], none⟩] [(1, ⟨r14, 0, none⟩, iV 1), (1, ⟨r14, 1, none⟩, iV 0), (1, ⟨r14, 2, none⟩, uV 1)] [] (by kernel_rfl) trivial (AllC_cons (sat_cell h55 3 rfl rfl) (AllC_cons (sat_cell h55 3 rfl rfl) (AllC_cons (sat_cell h55 3 rfl rfl) (AllC_nil _)))) ?_
  refine plain_act (i := 2) (by kernel_rfl) ?_
  refine zCl 82 Try.call25 (tnum_none b2 2 [(0, 2), (1, 1)] [(1, ⟨(1, 1, 1), 1, (6, 1)⟩)] ([⟨(1, 0, 1), 1, 0, 0, 0, [109, 97, 105, 110]⟩]) 1 0 1 (by omega) (by omega) (by omega) (by kernel_rfl)) h55 (by kernel_rfl) ?_
  rintro v K w57 (⟨rfl, rfl⟩) h58
  refine ⟨_, rfl, ?_⟩
  have h59 : sat g w57 [Tab b2 2 [(0, 2), (1, 1)] [(1, ⟨(1, 1, 1), 1, (6, 1)⟩)] ([⟨(1, 0, 1), 1, 0, 0, 0, [109, 97, 105, 110]⟩]), Cl r37 [iV 1, iV 1, uV 1] 28, Cl r27 [iV 0, iV 0, uV 0] 28, Cl r14 [iV 1, iV 0, uV 1] 28, R] := h58
  refine zB0 [] [3, 4, 5, 6, 7] [(13, iV 7), (12, iV 0), (84, iV 7), (83, iV 0), (79, .tuple #[iV 0, iV 7])] (by kernel_rfl) ?_
  refine PO.mk ?_
  change WP _ _ (CA Try.f18 [1, 1, 1, 1, 1, 1, 1, 1, 1]) _ _ _
  refine fk_cut ([(1, pV b2), (3, pV r14), (7, pV r37), (9, iV 1), (10, .bool false), (11, iV 0), (13, iV 7)] : Fr) (by kernel_rfl) (fun a => WP _ _ _ _ a _) (fun lr60 => ?_)
  refine zSq (by kernel_rfl) ?_
  refine zPl [0, 1, 2, 3, 4, 5, 6, 7, 8, 9] (by kernel_rfl) ?_
  refine zBb [2, 3, 4, 5, 6, 7, 8, 9] [(87, .agg #[iV 1, iV 1, uV 1]), (86, pV b2)] [⟨0, [], none⟩, ⟨1, [iV 1, iV 1, uV 1], none⟩] [(1, ⟨r37, 0, none⟩, iV 1), (1, ⟨r37, 1, none⟩, iV 1), (1, ⟨r37, 2, none⟩, uV 1)] [] (by kernel_rfl) trivial (AllC_cons (sat_cell h59 1 rfl rfl) (AllC_cons (sat_cell h59 1 rfl rfl) (AllC_cons (sat_cell h59 1 rfl rfl) (AllC_nil _)))) ?_
  refine plain_act (i := 2) (by kernel_rfl) ?_
  refine zCl 88 Try.call15 (tclose_lit b2 2 [(0, 2), (1, 1)] [(1, ⟨(1, 1, 1), 1, (6, 1)⟩)] ([⟨(1, 0, 1), 1, 0, 0, 0, [109, 97, 105, 110]⟩]) 1 1 1 ⟨(1, 1, 1), 1, (6, 1)⟩ (by omega) (by omega) (by omega) (by kernel_rfl) (by decide) 1 (1, 1) rfl (by decide) (by decide) 1 rfl true (by kernel_rfl) [(0, 2), (0, 2)] [] (by kernel_rfl) (by kernel_rfl)) h59 (by kernel_rfl) ?_
  rintro v K w61 (⟨rfl, rfl⟩) h62
  refine ⟨_, rfl, ?_⟩
  have h63 : sat g w61 [Tab b2 2 [(0, 2), (0, 2)] [] ([⟨(1, 0, 1), 1, 0, 0, 0, [109, 97, 105, 110]⟩]), Cl r37 [iV 1, iV 1, uV 1] 28, Cl r27 [iV 0, iV 0, uV 0] 28, Cl r14 [iV 1, iV 0, uV 1] 28, R] := h62
  refine zB0 [] [3, 4, 5, 6, 7, 8, 9] [(16, iV 0), (15, .bool true), (14, iV 1), (91, iV 0), (90, .bool true), (89, iV 1), (85, .tuple #[iV 1, .bool true, iV 0])] (by kernel_rfl) ?_
  refine PO.mk ?_
  change WP _ _ (CA Try.f18 [1, 1, 1, 1, 1, 1, 1, 1, 1, 1]) _ _ _
  refine fk_cut ([(1, pV b2), (3, pV r14), (9, iV 1), (10, .bool false), (11, iV 0), (13, iV 7), (14, iV 1), (15, .bool true), (16, iV 0)] : Fr) (by kernel_rfl) (fun a => WP _ _ _ _ a _) (fun lr64 => ?_)
  refine zSq (by kernel_rfl) ?_
  refine zPl [0, 1, 2, 3, 4, 5, 6, 7, 8, 9] (by kernel_rfl) ?_
  refine zB0 [1, 2, 3, 4, 5, 6, 7, 8, 9] [0] [(93, pV b2)] (by kernel_rfl) ?_
  refine plain_act (i := 1) (by kernel_rfl) ?_
  refine zCl 94 Try.call13 (lfile 1 1) h63 (by kernel_rfl) ?_
  rintro v K w65 (⟨rfl, rfl⟩) h66
  refine ⟨_, rfl, ?_⟩
  have h67 : sat g w65 [Tab b2 2 [(0, 2), (0, 2)] [] ([⟨(1, 0, 1), 1, 0, 0, 0, [109, 97, 105, 110]⟩]), Cl r37 [iV 1, iV 1, uV 1] 28, Cl r27 [iV 0, iV 0, uV 0] 28, Cl r14 [iV 1, iV 0, uV 1] 28, R] := h66
  refine zB0 [3, 4, 5, 6, 7, 8, 9] [2] [(95, .agg #[iV 5, uV 1])] (by kernel_rfl) ?_
  refine plain_act (i := 3) (by kernel_rfl) ?_
  refine zCl 96 Try.call12 (topen_lit b2 2 [(0, 2), (0, 2)] [] ([⟨(1, 0, 1), 1, 0, 0, 0, [109, 97, 105, 110]⟩]) (1) (1) (1) (5) (1) [120] (by omega) (by omega) (by simp only [List.length_cons, List.length_nil]; omega) (by omega) (by kernel_rfl) (by omega) (by decide) (not_has (by decide)) (by decide) 0 2 (by kernel_rfl) (by decide) 0 rfl [(1, 2), (0, 2)] [(0, ⟨(1, 0, 2), 2, (5, 1)⟩)] [⟨(1, 0, 1), 1, 0, 0, 0, [109, 97, 105, 110]⟩, ⟨(1, 1, 1), 1, 0, 0, 0, [120]⟩] (by kernel_rfl) (by kernel_rfl) (by kernel_rfl)) h67 (by kernel_rfl) ?_
  rintro v K w68 (⟨rfl, rfl⟩) h69
  refine ⟨_, rfl, ?_⟩
  have h70 : sat g w68 [Tab b2 2 [(1, 2), (0, 2)] [(0, ⟨(1, 0, 2), 2, (5, 1)⟩)] ([⟨(1, 0, 1), 1, 0, 0, 0, [109, 97, 105, 110]⟩, ⟨(1, 1, 1), 1, 0, 0, 0, [120]⟩]), Cl r37 [iV 1, iV 1, uV 1] 28, Cl r27 [iV 0, iV 0, uV 0] 28, Cl r14 [iV 1, iV 0, uV 1] 28, R] := h69
  refine zB0 [7, 8, 9] [4, 5, 6] [(98, iV 0), (97, .agg #[iV 1, iV 0, uV 2]), (92, .tuple #[.agg #[iV 1, iV 0, uV 2], iV 0])] (by kernel_rfl) ?_
  refine plain_act (i := 7) (by kernel_rfl) ?_
  refine an_new (d := 17) (fun xb_ => pV xb_) (fun xb_ => Obj.cells [iV 0, iV 0, uV 0].toArray 28 (0, 0)) (fun xb_ => by kernel_rfl) (by kernel_rfl) rfl h70 ?_
  intro r71 w72 (h73 : sat g w72 [Cl r71 [iV 0, iV 0, uV 0] 28, Tab b2 2 [(1, 2), (0, 2)] [(0, ⟨(1, 0, 2), 2, (5, 1)⟩)] ([⟨(1, 0, 1), 1, 0, 0, 0, [109, 97, 105, 110]⟩, ⟨(1, 1, 1), 1, 0, 0, 0, [120]⟩]), Cl r37 [iV 1, iV 1, uV 1] 28, Cl r27 [iV 0, iV 0, uV 0] 28, Cl r14 [iV 1, iV 0, uV 1] 28, R])
  refine plain_act (i := 8) (by kernel_rfl) ?_
  refine an_store [(0, iV 1), (1, iV 0), (2, uV 2)] (cs' := [iV 1, iV 0, uV 2]) (by kernel_rfl) (by kernel_rfl) (allq ⟨⟨by simp, rfl⟩, ⟨by simp, rfl⟩, ⟨by simp, rfl⟩, trivial⟩) rfl h73 ?_
  intro w74 (h75 : sat g w74 [Cl r71 [iV 1, iV 0, uV 2] 28, Tab b2 2 [(1, 2), (0, 2)] [(0, ⟨(1, 0, 2), 2, (5, 1)⟩)] ([⟨(1, 0, 1), 1, 0, 0, 0, [109, 97, 105, 110]⟩, ⟨(1, 1, 1), 1, 0, 0, 0, [120]⟩]), Cl r37 [iV 1, iV 1, uV 1] 28, Cl r27 [iV 0, iV 0, uV 0] 28, Cl r14 [iV 1, iV 0, uV 1] 28, R])
  refine zB0 [] [9] [(18, iV 0)] (by kernel_rfl) ?_
  refine PO.mk ?_
  change WP _ _ (CA Try.f18 [1, 1, 1, 1, 1, 1, 1, 1, 1, 1, 1]) _ _ _
  refine fk_cut ([(1, pV b2), (3, pV r14), (9, iV 1), (10, .bool false), (11, iV 0), (13, iV 7), (14, iV 1), (15, .bool true), (16, iV 0), (17, pV r71), (18, iV 0)] : Fr) (by kernel_rfl) (fun a => WP _ _ _ _ a _) (fun lr76 => ?_)
  refine zSq (by kernel_rfl) ?_
  refine zPl [0, 1, 2, 3, 4, 5, 6, 7] (by kernel_rfl) ?_
  refine zBb [2, 3, 4, 5, 6, 7] [(101, .agg #[iV 1, iV 0, uV 1]), (100, pV b2)] [⟨0, [], none⟩, ⟨1, [iV 1, iV 0, uV 1], none⟩] [(1, ⟨r14, 0, none⟩, iV 1), (1, ⟨r14, 1, none⟩, iV 0), (1, ⟨r14, 2, none⟩, uV 1)] [] (by kernel_rfl) trivial (AllC_cons (sat_cell h75 4 rfl rfl) (AllC_cons (sat_cell h75 4 rfl rfl) (AllC_cons (sat_cell h75 4 rfl rfl) (AllC_nil _)))) ?_
  have h77 : sat g w74 [Tab b2 2 [(1, 2), (0, 2)] [(0, ⟨(1, 0, 2), 2, (5, 1)⟩)] ([⟨(1, 0, 1), 1, 0, 0, 0, [109, 97, 105, 110]⟩, ⟨(1, 1, 1), 1, 0, 0, 0, [120]⟩]), Cl r71 [iV 1, iV 0, uV 2] 28, Cl r37 [iV 1, iV 1, uV 1] 28, Cl r27 [iV 0, iV 0, uV 0] 28, Cl r14 [iV 1, iV 0, uV 1] 28, R] := sat_sel [1, 0, 2, 3, 4, 5] rfl h75
  refine plain_act (i := 2) (by kernel_rfl) ?_
  refine zCl 102 Try.call25 (tnum_diff b2 2 [(1, 2), (0, 2)] [(0, ⟨(1, 0, 2), 2, (5, 1)⟩)] ([⟨(1, 0, 1), 1, 0, 0, 0, [109, 97, 105, 110]⟩, ⟨(1, 1, 1), 1, 0, 0, 0, [120]⟩]) 1 0 1 ⟨(1, 0, 2), 2, (5, 1)⟩ (by omega) (by omega) (by omega) (by kernel_rfl) (by decide)) h77 (by kernel_rfl) ?_
  rintro v K w78 (⟨rfl, rfl⟩) h79
  refine ⟨_, rfl, ?_⟩
  have h80 : sat g w78 [Tab b2 2 [(1, 2), (0, 2)] [(0, ⟨(1, 0, 2), 2, (5, 1)⟩)] ([⟨(1, 0, 1), 1, 0, 0, 0, [109, 97, 105, 110]⟩, ⟨(1, 1, 1), 1, 0, 0, 0, [120]⟩]), Cl r71 [iV 1, iV 0, uV 2] 28, Cl r37 [iV 1, iV 1, uV 1] 28, Cl r27 [iV 0, iV 0, uV 0] 28, Cl r14 [iV 1, iV 0, uV 1] 28, R] := h79
  refine zB0 [] [3, 4, 5, 6, 7] [(20, iV 7), (19, iV 0), (104, iV 7), (103, iV 0), (99, .tuple #[iV 0, iV 7])] (by kernel_rfl) ?_
  refine PO.mk ?_
  change WP _ _ (CA Try.f18 [1, 1, 1, 1, 1, 1, 1, 1, 1, 1, 1, 1]) _ _ _
  refine fk_cut ([(1, pV b2), (9, iV 1), (10, .bool false), (11, iV 0), (13, iV 7), (14, iV 1), (15, .bool true), (16, iV 0), (17, pV r71), (18, iV 0), (20, iV 7)] : Fr) (by kernel_rfl) (fun a => WP _ _ _ _ a _) (fun lr81 => ?_)
  refine zSq (by kernel_rfl) ?_
  refine gi_drw (id := 14) (ops := RA Try.f18 [1, 1, 1, 1, 1, 1, 1, 1, 1, 1, 1, 1, 0]) (Tr.fl 0 (Tr.fl 1 (Tr.fl 2 (Tr.fl 3 (Tr.fl 4 (Tr.fl 5 (Tr.fl 6 (Tr.fl 7 (Tr.fl 8 (Tr.fl 9 (Tr.fl 10 (Tr.fl 11 (Tr.fl 12 (Tr.fl 13 (Tr.fl 14 (Tr.fl 15 (Tr.fl 16 (Tr.fl 17 (Tr.fl 18 (Tr.fl 19 (Tr.fl 20 (Tr.fl 21 (Tr.fl 22 (Tr.fl 23 (Tr.fl 24 (Tr.fl 25 (Tr.fl 26 (Tr.fl 27 (Tr.fl 28 (Tr.fl 29 (Tr.fl 30 (Tr.an 31 (Tr.fl 32 (Tr.fl 33 (Tr.fl 34 (Tr.fl 35 (Tr.fl 36 (Tr.fl 37 (Tr.fl 38 (Tr.fl 39 (Tr.an 40 (Tr.fl 41 (Tr.fl 42 (Tr.fl 43 Tr.nil)))))))))))))))))))))))))))))))))))))))))))) (by kernel_rfl) (by kernel_rfl) (by kernel_rfl) (by kernel_rfl) (by kernel_rfl) (fun _ _ d _ _ h => by cases d <;> exact h) h80 ?_
  intro w82 h83
  refine draw_batch (t := (Tr.an 31 (Tr.fl 32 (Tr.fl 33 (Tr.fl 34 (Tr.fl 35 (Tr.fl 36 (Tr.fl 37 (Tr.fl 38 (Tr.fl 39 (Tr.an 40 (Tr.fl 41 (Tr.fl 42 (Tr.fl 43 Tr.nil)))))))))))))) [⟨0, [], none⟩, ⟨1, [], none⟩, ⟨2, [], none⟩, ⟨3, [], none⟩, ⟨4, [], none⟩, ⟨5, [], none⟩, ⟨6, [], none⟩, ⟨7, [], none⟩, ⟨8, [], none⟩, ⟨9, [], none⟩, ⟨10, [], none⟩, ⟨11, [], none⟩, ⟨12, [], none⟩, ⟨13, [], none⟩, ⟨14, [], none⟩, ⟨15, [], none⟩, ⟨16, [], none⟩, ⟨17, [], none⟩, ⟨18, [], none⟩, ⟨19, [], none⟩, ⟨20, [], none⟩, ⟨21, [], none⟩, ⟨22, [], none⟩, ⟨23, [], none⟩, ⟨24, [], none⟩, ⟨25, [], none⟩, ⟨26, [], none⟩, ⟨27, [], none⟩, ⟨28, [], none⟩, ⟨29, [], none⟩, ⟨30, [iV 1, iV 0, uV 2], none⟩] (l' := ([(135, .agg #[iV 1, iV 0, uV 2]), (134, .bool true), (133, .bool true), (132, .bool true), (131, iV 0), (130, .bool true), (129, .bool true), (128, .bool true), (127, .bool true), (126, .bool true), (125, .bool true), (124, iV 1), (123, .bool true), (122, .bool true), (121, .bool true), (120, iV 0), (119, .bool true), (118, .bool true), (117, .bool true), (116, iV 7), (115, .bool true), (114, .bool true), (113, .bool true), (112, .bool false), (111, .bool true), (110, .bool true), (109, .bool true), (108, iV 1), (107, .bool true), (106, .bool true), (105, iV 0), (1, pV b2), (9, iV 1), (10, .bool false), (11, iV 0), (13, iV 7), (14, iV 1), (15, .bool true), (16, iV 0), (17, pV r71), (18, iV 0), (20, iV 7)] : Fr) ++ lr81) (pts' := [(30, ⟨r71, 0, none⟩, iV 1), (30, ⟨r71, 1, none⟩, iV 0), (30, ⟨r71, 2, none⟩, uV 2)]) (eqs := []) (by kernel_rfl) trivial (AllC_cons (sat_cell h83 1 rfl rfl) (AllC_cons (sat_cell h83 1 rfl rfl) (AllC_cons (sat_cell h83 1 rfl rfl) (AllC_nil _)))) ?_
  refine fk_cut ([(135, .agg #[iV 1, iV 0, uV 2]), (134, .bool true), (1, pV b2), (9, iV 1), (10, .bool false), (11, iV 0), (13, iV 7), (14, iV 1), (15, .bool true), (16, iV 0), (17, pV r71), (18, iV 0), (20, iV 7)] : Fr) (by kernel_rfl) (fun a => RW _ _ _ _ _ a _) (fun lr84 => ?_)
  refine draw_act (i := 31) [(30, ⟨r71, 0, none⟩, iV 1), (30, ⟨r71, 1, none⟩, iV 0), (30, ⟨r71, 2, none⟩, uV 2)] (by kernel_rfl) (by kernel_rfl) ?_
  refine zCl 136 Try.call16 (ldesc 0 2) h83 (by kernel_rfl) ?_
  rintro v K w85 (⟨rfl, rfl⟩) h86
  refine ⟨_, rfl, ?_⟩
  have h87 : sat g w85 [Tab b2 2 [(1, 2), (0, 2)] [(0, ⟨(1, 0, 2), 2, (5, 1)⟩)] ([⟨(1, 0, 1), 1, 0, 0, 0, [109, 97, 105, 110]⟩, ⟨(1, 1, 1), 1, 0, 0, 0, [120]⟩]), Cl r71 [iV 1, iV 0, uV 2] 28, Cl r37 [iV 1, iV 1, uV 1] 28, Cl r27 [iV 0, iV 0, uV 0] 28, Cl r14 [iV 1, iV 0, uV 1] 28, R] := h86
  refine ⟨(AllC_cons (sat_cell h87 1 rfl rfl) (AllC_cons (sat_cell h87 1 rfl rfl) (AllC_cons (sat_cell h87 1 rfl rfl) (AllC_nil _)))), ?_⟩
  refine draw_law (i := 32) 137 (.bool true) [] (by kernel_rfl) (fun _ _ => seq28_eql_t (o := opA (RA Try.f18 [1, 1, 1, 1, 1, 1, 1, 1, 1, 1, 1, 1, 0]) 32) (x := (Operand.tmp 135)) (y := (Operand.tmp 136)) 1 0 2 1 0 2 (by kernel_rfl) (by kernel_rfl) (by kernel_rfl) ⟨rfl, rfl, rfl⟩ _) (by intro q hq; cases hq) ?_
  refine draw_batch (t := (Tr.an 40 (Tr.fl 41 (Tr.fl 42 (Tr.fl 43 Tr.nil))))) [⟨33, [], none⟩, ⟨34, [], none⟩, ⟨35, [], none⟩, ⟨36, [], none⟩, ⟨37, [], none⟩, ⟨38, [], none⟩, ⟨39, [], none⟩] (l' := ([(144, pV b2), (143, .bool true), (142, .bool true), (141, .bool true), (140, iV 7), (139, .bool true), (138, .bool true), (137, .bool true), (136, .agg #[iV 1, iV 0, uV 2]), (135, .agg #[iV 1, iV 0, uV 2]), (134, .bool true), (1, pV b2), (9, iV 1), (10, .bool false), (11, iV 0), (13, iV 7), (14, iV 1), (15, .bool true), (16, iV 0), (17, pV r71), (18, iV 0), (20, iV 7)] : Fr) ++ lr84) (pts' := []) (eqs := []) (by kernel_rfl) trivial (AllC_nil _) ?_
  refine draw_act (i := 40) [(30, ⟨r71, 0, none⟩, iV 1), (30, ⟨r71, 1, none⟩, iV 0), (30, ⟨r71, 2, none⟩, uV 2)] (by kernel_rfl) (by kernel_rfl) ?_
  refine zCl 145 Try.call22 ((by have h_ := tlen_ht b2 2 [(1, 2), (0, 2)] [(0, ⟨(1, 0, 2), 2, (5, 1)⟩)] ([⟨(1, 0, 1), 1, 0, 0, 0, [109, 97, 105, 110]⟩, ⟨(1, 1, 1), 1, 0, 0, 0, [120]⟩]); exact h_)) h87 (by kernel_rfl) ?_
  rintro v K w88 (⟨rfl, rfl⟩) h89
  refine ⟨_, rfl, ?_⟩
  have h90 : sat g w88 [Tab b2 2 [(1, 2), (0, 2)] [(0, ⟨(1, 0, 2), 2, (5, 1)⟩)] ([⟨(1, 0, 1), 1, 0, 0, 0, [109, 97, 105, 110]⟩, ⟨(1, 1, 1), 1, 0, 0, 0, [120]⟩]), Cl r71 [iV 1, iV 0, uV 2] 28, Cl r37 [iV 1, iV 1, uV 1] 28, Cl r27 [iV 0, iV 0, uV 0] 28, Cl r14 [iV 1, iV 0, uV 1] 28, R] := h89
  refine ⟨(AllC_cons (sat_cell h90 1 rfl rfl) (AllC_cons (sat_cell h90 1 rfl rfl) (AllC_cons (sat_cell h90 1 rfl rfl) (AllC_nil _)))), ?_⟩
  refine draw_batch (t := Tr.nil) [⟨41, [], none⟩, ⟨42, [], none⟩, ⟨43, [], none⟩] (l' := ([(0, .bool true), (147, .bool true), (146, .bool true), (145, iV 2), (144, pV b2), (143, .bool true), (142, .bool true), (141, .bool true), (140, iV 7), (139, .bool true), (138, .bool true), (137, .bool true), (136, .agg #[iV 1, iV 0, uV 2]), (135, .agg #[iV 1, iV 0, uV 2]), (134, .bool true), (1, pV b2), (9, iV 1), (10, .bool false), (11, iV 0), (13, iV 7), (14, iV 1), (15, .bool true), (16, iV 0), (17, pV r71), (18, iV 0), (20, iV 7)] : Fr) ++ lr84) (pts' := []) (eqs := []) (by kernel_rfl) trivial (AllC_nil _) ?_
  change WP _ _ (CA Try.f18 [1, 1, 1, 1, 1, 1, 1, 1, 1, 1, 1, 1, 1]) _ _ _
  refine fk_cut ([(0, .bool true)] : Fr) (by kernel_rfl) (fun a => WP _ _ _ _ a _) (fun lr91 => ?_)
  refine gi_rt (by kernel_rfl) ?_
  repeat (first | simp only [Exit.inBlock] | simp only [Exit.then])
  have h92 : sat g w88 [R] := sat_sel [5] rfl h90
  refine hi_out [] (.bool true) [] (by kernel_rfl) (by intro q hq; cases hq) ?_
  exact ⟨.bool true, [], rfl, ⟨rfl, rfl⟩, h92⟩

end Go.Proofs.Ytjjpmehiolejgaa
