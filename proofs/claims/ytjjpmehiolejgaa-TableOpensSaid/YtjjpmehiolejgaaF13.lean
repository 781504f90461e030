/- Walks, printed by my generator gen13.py. -/
import Derived.Test.YtjjpmehiolejgaaF11
namespace Go.Proofs.Ytjjpmehiolejgaa
theorem seq34_eql_t {n : Nat} {l : Fr} {o : Oper} {x y : Operand} (a0 : Int) (a1 : Int) (c0 : Int) (c1 : Int) (ho : o.op = .binOp .eql 34 x y 34) (hx : fe n l x = .agg #[.int .i64 a0, .int .u32 a1]) (hy : fe n l y = .agg #[.int .i64 c0, .int .u32 c1]) (h : a0 = c0 ∧ a1 = c1) (w : World) : (execOp (fe n l) o).run Try.prog w = .ok (.value (.bool true)) w := by
  obtain ⟨rfl, rfl⟩ := h
  simp [execOp, ho, hx, hy, go_sem]
theorem seq34_eql_f {n : Nat} {l : Fr} {o : Oper} {x y : Operand} (a0 : Int) (a1 : Int) (c0 : Int) (c1 : Int) (ho : o.op = .binOp .eql 34 x y 34) (hx : fe n l x = .agg #[.int .i64 a0, .int .u32 a1]) (hy : fe n l y = .agg #[.int .i64 c0, .int .u32 c1]) (h : ¬ (a0 = c0 ∧ a1 = c1)) (w : World) : (execOp (fe n l) o).run Try.prog w = .ok (.value (.bool false)) w := by
  by_cases h0 : a0 = c0
  · skip
    by_cases h1 : a1 = c1
    · exact absurd ⟨h0, h1⟩ h
    · simp [execOp, ho, hx, hy, go_sem, h0, h1]
  · simp [execOp, ho, hx, hy, go_sem, h0]
set_option maxHeartbeats 4000000 in
theorem thas_ht (b n : Nat) (A : List Sl2) (E : Tm) (RL : List Rs) (hx hy : Int) : HT Try.prog 41 [Value.pointer (some ⟨b, 0, none⟩), Value.agg #[Value.int IntKind.i64 hx, Value.int IntKind.u32 hy]] [Tab b n A E RL] (fun v K => (v = Value.bool true ∧ (∃ e ∈ allE E, e.h = (hx, hy)) ∧ K = [Tab b n A E RL]) ∨ (v = Value.bool false ∧ (∀ e ∈ allE E, e.h ≠ (hx, hy)) ∧ K = [Tab b n A E RL])) := by
 refine hi_in 13 ([(0, pV b), (1, .agg #[iV hx, uV hy])] : Fr) Try.func41 (by kernel_rfl) Try.ntmps41 rfl rfl ?_
 intro g w0 R h0
 refine ySq ?_
 refine yPl [0, 1] ?_
 refine yA ?_
 refine yNp 3 34 [iV hx, uV hy] h0 fun r1 w2 h3 => ?_
 refine yA ?_
 refine yNp 4 4 [.bool false] h3 fun r4 w5 h6 => ?_
 refine PO.mk ?_
 refine yK [(0, pV b), (1, .agg #[iV hx, uV hy]), (3, pV r1), (4, pV r4)] fun lr7 => ?_
 refine ySq ?_
 refine ySq ?_
 refine yPl [0, 1] ?_
 refine yB0 [1] [0] [(6, pV b)] ?_
 refine yA ?_
 refine yCl 7 Try.call48 (tall1_ht b) h6 ?_
 rintro v K w9 (⟨b8, rfl, rfl⟩) h10
 refine ⟨_, rfl, ?_⟩
 have h11 := ap1 h10
 refine PO.mk ?_
 refine yK [(0, pV b), (1, .agg #[iV hx, uV hy]), (3, pV r1), (4, pV r4), (7, .func (Fn.func 62) #[] #[pV b8])] fun lr12 => ?_
 refine yBk 0 ?_
 have h18 := tk5 (sf4 (sf3 (sf2 (sf4 (sf4 h11)))))
 refine gi_rf2 (x := (Operand.tmp 7)) (ps := #[8]) (asg := CA Try.f41 [1, 0, 1, 0, 1]) (bd := CA Try.f41 [1, 0, 1, 0, 0]) (gf := 62) (cap := [pV b8]) (N := ((allE E).length)) (xs := fun i => [.agg #[iV (((allE E).getD i noE).d.1), iV (((allE E).getD i noE).d.2.1), uV (((allE E).getD i noE).d.2.2), iV (((allE E).getD i noE).num), iV (((allE E).getD i noE).h.1), uV (((allE E).getD i noE).h.2)]]) (At := [Cl b8 [pV b] 22, Tab b n A E RL]) (K0 := [Cl r1 [iV hx, uV hy] 34, Cl r4 [.bool false] 4]) (L := [R]) (fun i => [(8, .agg #[iV (((allE E).getD i noE).d.1), iV (((allE E).getD i noE).d.2.1), uV (((allE E).getD i noE).d.2.2), iV (((allE E).getD i noE).num), iV (((allE E).getD i noE).h.1), uV (((allE E).getD i noE).h.2)])] ++ (([(0, pV b), (1, .agg #[iV hx, uV hy]), (3, pV r1), (4, pV r4), (7, .func (Fn.func 62) #[] #[pV b8])] : Fr) ++ lr12)) (fun i rb_ => ([(5, pV rb_), (8, .agg #[iV (((allE E).getD i noE).d.1), iV (((allE E).getD i noE).d.2.1), uV (((allE E).getD i noE).d.2.2), iV (((allE E).getD i noE).num), iV (((allE E).getD i noE).h.1), uV (((allE E).getD i noE).h.2)])] : Fr) ++ (([(0, pV b), (1, .agg #[iV hx, uV hy]), (3, pV r1), (4, pV r4), (7, .func (Fn.func 62) #[] #[pV b8])] : Fr) ++ lr12)) (fun i rb_ K => (∀ j : Nat, j < i → ((allE E).getD j noE).h ≠ (hx, hy)) ∧ K = [Cl rb_ [iV (((allE E).getD i noE).d.1), iV (((allE E).getD i noE).d.2.1), uV (((allE E).getD i noE).d.2.2), iV (((allE E).getD i noE).num), iV (((allE E).getD i noE).h.1), uV (((allE E).getD i noE).h.2)] 90, Cl r1 [iV hx, uV hy] 34, Cl r4 [.bool false] 4]) (fun i K => (∀ j : Nat, j < i → ((allE E).getD j noE).h ≠ (hx, hy)) ∧ K = [Cl r1 [iV hx, uV hy] 34, Cl r4 [.bool false] 4]) (fun c i K => (c = Code.ret ∧ (∃ e ∈ allE E, e.h = (hx, hy)) ∧ K = [Cl r1 [iV hx, uV hy] 34, Cl r4 [.bool true] 4, Tab b n A E RL])) (by kernel_rfl) (by kernel_rfl) Try.call62 (tall_it b8 b n A E RL) ⟨(fun j h => absurd h (Nat.not_lt_zero _)), rfl⟩ h18 (fun _ _ => rfl) (fun _ _ => rf_frame1 rfl) ?_ ?_ ?_ ?_
 ·
  rintro i hi_ lp_ w19 K_ G ⟨hall_, rfl⟩ h20
  have h21 : sat g w19 [Cl r1 [iV hx, uV hy] 34, Cl r4 [.bool false] 4, Cl b8 [pV b] 22, Tab b n A E RL, G] := h20
  change WP _ _ (CA Try.f41 [1, 0, 1, 0, 1]) _ (mk 13 (([(8, .agg #[iV (((allE E).getD i noE).d.1), iV (((allE E).getD i noE).d.2.1), uV (((allE E).getD i noE).d.2.2), iV (((allE E).getD i noE).num), iV (((allE E).getD i noE).h.1), uV (((allE E).getD i noE).h.2)]), (0, pV b), (1, .agg #[iV hx, uV hy]), (3, pV r1), (4, pV r4), (7, .func (Fn.func 62) #[] #[pV b8])] : Fr) ++ lr12)) _
  refine yPl [0, 1] ?_
  refine yA ?_
  refine yNp 5 90 [iV 0, iV 0, uV 0, iV 0, iV 0, uV 0] h21 fun r22 w23 h24 => ?_
  refine yA ?_
  refine yS [(0, iV (((allE E).getD i noE).d.1)), (1, iV (((allE E).getD i noE).d.2.1)), (2, uV (((allE E).getD i noE).d.2.2)), (3, iV (((allE E).getD i noE).num)), (4, iV (((allE E).getD i noE).h.1)), (5, uV (((allE E).getD i noE).h.2))] [iV (((allE E).getD i noE).d.1), iV (((allE E).getD i noE).d.2.1), uV (((allE E).getD i noE).d.2.2), iV (((allE E).getD i noE).num), iV (((allE E).getD i noE).h.1), uV (((allE E).getD i noE).h.2)] h24 fun w25 h26 => ?_
  refine PO.mk ?_
  repeat (first | simp only [Exit.inBlock] | simp only [Exit.then])
  exact ⟨r22, _, rfl, ⟨hall_, rfl⟩, h26⟩
 ·
  rintro i hi29 lp_ w27 rb_ K_ G ⟨hall_, rfl⟩ h28
  have h30 : sat g w27 [Cl rb_ [iV (((allE E).getD i noE).d.1), iV (((allE E).getD i noE).d.2.1), uV (((allE E).getD i noE).d.2.2), iV (((allE E).getD i noE).num), iV (((allE E).getD i noE).h.1), uV (((allE E).getD i noE).h.2)] 90, Cl r1 [iV hx, uV hy] 34, Cl r4 [.bool false] 4, Cl b8 [pV b] 22, Tab b n A E RL, G] := h28
  change WP _ _ (CA Try.f41 [1, 0, 1, 0, 0]) _ (mk 13 (([(5, pV rb_), (8, .agg #[iV (((allE E).getD i noE).d.1), iV (((allE E).getD i noE).d.2.1), uV (((allE E).getD i noE).d.2.2), iV (((allE E).getD i noE).num), iV (((allE E).getD i noE).h.1), uV (((allE E).getD i noE).h.2)]), (0, pV b), (1, .agg #[iV hx, uV hy]), (3, pV r1), (4, pV r4), (7, .func (Fn.func 62) #[] #[pV b8])] : Fr) ++ lr12)) _
  refine yBk 1 ?_
  refine ySq ?_
  refine yPl [0, 1, 2, 3] ?_
  refine yBb [3] [(11, .agg #[iV hx, uV hy]), (10, .agg #[iV (((allE E).getD i noE).h.1), uV (((allE E).getD i noE).h.2)]), (9, .pointer (some ⟨rb_, 4, none⟩))] [e0 0, e2 1 [iV (((allE E).getD i noE).h.1), uV (((allE E).getD i noE).h.2)], e2 2 [iV hx, uV hy]] [(2, ⟨r1, 0, none⟩, iV hx), (2, ⟨r1, 1, none⟩, uV hy), (1, ⟨rb_, 4, none⟩, iV (((allE E).getD i noE).h.1)), (1, ⟨rb_, 5, none⟩, uV (((allE E).getD i noE).h.2))] [] trivial (kC (sat_cell h30 1 rfl rfl) (kC (sat_cell h30 1 rfl rfl) (kC (sat_cell h30 0 rfl rfl) (kC (sat_cell h30 0 rfl rfl) nC)))) ?_
  by_cases c31 : ((allE E).getD i noE).h.1 = hx
  ·
   by_cases c32 : ((allE E).getD i noE).h.2 = hy
   ·
    refine plain_law (i := 3) 12 (.bool true) (by kernel_rfl) (seq34_eql_t (o := opA (RA Try.f41 [1, 0, 1, 0, 0, 0, 0]) 3) (x := (Operand.tmp 10)) (y := (Operand.tmp 11)) (((allE E).getD i noE).h.1) (((allE E).getD i noE).h.2) hx hy (by kernel_rfl) (by kernel_rfl) (by kernel_rfl) ⟨(by omega), (by omega)⟩ _) (.mk ?_)
    refine yK [(0, pV b), (1, .agg #[iV hx, uV hy]), (3, pV r1), (4, pV r4), (5, pV rb_), (7, .func (Fn.func 62) #[] #[pV b8]), (8, .agg #[iV (((allE E).getD i noE).d.1), iV (((allE E).getD i noE).d.2.1), uV (((allE E).getD i noE).d.2.2), iV (((allE E).getD i noE).num), iV (((allE E).getD i noE).h.1), uV (((allE E).getD i noE).h.2)]), (12, .bool true)] fun lr33 => ?_
    refine yCt ?_
    refine ySq ?_
    refine yPl [0] ?_
    have h34 := tk6 (sf5 (sf4 (sf4 (sf5 (sf5 (sf5 h30))))))
    refine yA ?_
    refine yS [(0, .bool true)] [.bool true] h34 fun w35 h36 => ?_
    refine PO.mk ?_
    refine yK [(0, pV b), (1, .agg #[iV hx, uV hy]), (3, pV r1), (4, pV r4), (5, pV rb_), (7, .func (Fn.func 62) #[] #[pV b8]), (8, .agg #[iV (((allE E).getD i noE).d.1), iV (((allE E).getD i noE).d.2.1), uV (((allE E).getD i noE).d.2.2), iV (((allE E).getD i noE).num), iV (((allE E).getD i noE).h.1), uV (((allE E).getD i noE).h.2)]), (12, .bool true)] fun lr37 => ?_
    refine yRt ?_
    repeat (first | simp only [Exit.inBlock] | simp only [Exit.then])
    have h38 := tk6 (sf5 (sf4 (sf5 (sf5 (sf2 (sf3 h36))))))
    have h39 := tk4 h38
    exact ⟨_, ⟨rfl, ⟨_, getD_mem hi29, Prod.ext (show ((allE E).getD i noE).h.1 = hx from by omega) (show ((allE E).getD i noE).h.2 = hy from by omega)⟩, rfl⟩, h39⟩
   ·
    refine plain_law (i := 3) 12 (.bool false) (by kernel_rfl) (seq34_eql_f (o := opA (RA Try.f41 [1, 0, 1, 0, 0, 0, 0]) 3) (x := (Operand.tmp 10)) (y := (Operand.tmp 11)) (((allE E).getD i noE).h.1) (((allE E).getD i noE).h.2) hx hy (by kernel_rfl) (by kernel_rfl) (by kernel_rfl) (by omega) _) (.mk ?_)
    refine yK [(0, pV b), (1, .agg #[iV hx, uV hy]), (3, pV r1), (4, pV r4), (5, pV rb_), (7, .func (Fn.func 62) #[] #[pV b8]), (8, .agg #[iV (((allE E).getD i noE).d.1), iV (((allE E).getD i noE).d.2.1), uV (((allE E).getD i noE).d.2.2), iV (((allE E).getD i noE).num), iV (((allE E).getD i noE).h.1), uV (((allE E).getD i noE).h.2)]), (12, .bool false)] fun lr40 => ?_
    refine yCf ?_
    refine ySk ?_
    repeat (first | simp only [Exit.inBlock] | simp only [Exit.then])
    have h41 := tk6 (sf5 (sf5 (sf5 (sf5 (sf5 h30)))))
    have h42 := tk5 h41
    exact ⟨_, ⟨(upto_go hall_ (ne_pair (by omega))), rfl⟩, h42⟩
  ·
   refine plain_law (i := 3) 12 (.bool false) (by kernel_rfl) (seq34_eql_f (o := opA (RA Try.f41 [1, 0, 1, 0, 0, 0, 0]) 3) (x := (Operand.tmp 10)) (y := (Operand.tmp 11)) (((allE E).getD i noE).h.1) (((allE E).getD i noE).h.2) hx hy (by kernel_rfl) (by kernel_rfl) (by kernel_rfl) (by omega) _) (.mk ?_)
   refine yK [(0, pV b), (1, .agg #[iV hx, uV hy]), (3, pV r1), (4, pV r4), (5, pV rb_), (7, .func (Fn.func 62) #[] #[pV b8]), (8, .agg #[iV (((allE E).getD i noE).d.1), iV (((allE E).getD i noE).d.2.1), uV (((allE E).getD i noE).d.2.2), iV (((allE E).getD i noE).num), iV (((allE E).getD i noE).h.1), uV (((allE E).getD i noE).h.2)]), (12, .bool false)] fun lr43 => ?_
   refine yCf ?_
   refine ySk ?_
   repeat (first | simp only [Exit.inBlock] | simp only [Exit.then])
   have h44 := tk6 (sf5 (sf5 (sf5 (sf5 (sf5 h30)))))
   have h45 := tk5 h44
   exact ⟨_, ⟨(upto_go hall_ (ne_pair (by omega))), rfl⟩, h45⟩
 ·
  rintro D46 w47 K_ ⟨hall_, rfl⟩ h48
  have h49 : sat g w47 [pt D46 (Obj.deferred (some [])), Cl r1 [iV hx, uV hy] 34, Cl r4 [.bool false] 4, Cl b8 [pV b] 22, Tab b n A E RL, R] := h48
  refine yK [(4, pV r4)] fun lr50 => ?_
  refine ySq ?_
  refine yPl [0] ?_
  have h51 := tk6 (sf5 (sf4 (sf4 (sf5 (sf5 (sf5 h49))))))
  refine yA ?_
  refine yS [(0, .bool false)] [.bool false] h51 fun w52 h53 => ?_
  refine PO.mk ?_
  refine yK [(4, pV r4)] fun lr54 => ?_
  refine yRt ?_
  repeat (first | simp only [Exit.inBlock] | simp only [Exit.then])
  have h55 := tk6 (sf5 (sf4 (sf5 (sf5 (sf5 (sf5 h53))))))
  refine hi_out1 h55 [.bool false] (.bool false) [(⟨r4, 0, none⟩, .bool false)] (by kernel_rfl) (fun w57 h56 => ⟨?_, ?_⟩)
  · exact (allq ⟨sat_cell h56 1 rfl rfl, trivial⟩)
  ·
   have h58 : sat g w57 [pt D46 (Obj.deferred none), Cl r4 [.bool false] 4, Cl r1 [iV hx, uV hy] 34, Cl b8 [pV b] 22, Tab b n A E RL, R] := h56
   have h59 := tk6 (sf5 (sf4 (sf4 (sf4 (sf4 (sf5 h58))))))
   have h60 := tk2 (sf1 (sf5 h59))
   exact ⟨.bool false, [Tab b n A E RL], rfl, (.inr ⟨rfl, getD_all hall_, rfl⟩), h60⟩
 ·
  rintro D61 w62 ex_ i K_ hi64 (⟨rfl, hex_, rfl⟩) h63
  ·
   have h65 : sat g w62 [pt D61 (Obj.deferred (some [])), Cl r1 [iV hx, uV hy] 34, Cl r4 [.bool true] 4, Tab b n A E RL, R] := h63
   refine gi_rt rfl ?_
   repeat (first | simp only [Exit.inBlock] | simp only [Exit.then])
   refine hi_out1 h65 [.bool true] (.bool true) [(⟨r4, 0, none⟩, .bool true)] (by kernel_rfl) (fun w67 h66 => ⟨?_, ?_⟩)
   · exact (allq ⟨sat_cell h66 2 rfl rfl, trivial⟩)
   ·
    have h68 : sat g w67 [pt D61 (Obj.deferred none), Cl r1 [iV hx, uV hy] 34, Cl r4 [.bool true] 4, Tab b n A E RL, R] := h66
    have h69 := tk5 (sf4 (sf3 (sf3 (sf3 (sf4 h68)))))
    have h70 := tk2 (sf1 (sf4 h69))
    exact ⟨.bool true, [Tab b n A E RL], rfl, (.inl ⟨rfl, hex_, rfl⟩), h70⟩

set_option maxHeartbeats 4000000 in
theorem tdescs_ok (b n : Nat) (A : List Sl2) (E : Tm) (RL : List Rs) (vn : Int) (h : 1 ≤ vn ∧ vn ≤ (RL.length : Int)) : HT Try.prog 21 [Value.pointer (some ⟨b, 0, none⟩), Value.int IntKind.i64 vn] [Tab b n A E RL] (fun v K => ∃ (p : Option Addr) (c : Nat), v = Value.tuple #[Value.slice p (descs E vn).length c, Value.int .i64 0] ∧ K = [Tab b n A E RL, Sl 28 3 p (((descs E vn).length)) c (fl eO (descs E vn))]) := by
 refine hi_in 28 ([(0, pV b), (1, iV vn)] : Fr) Try.func21 (by kernel_rfl) Try.ntmps21 rfl rfl ?_
 intro g w0 R h0
 refine ySq ?_
 refine yPl [0, 1, 2] ?_
 refine yA ?_
 refine yNp 3 3 [iV vn] h0 fun r1 w2 h3 => ?_
 refine yB0 [] [1, 2] [(5, iV 0), (4, .slice none 0 0)] (.mk ?_)
 refine yK [(0, pV b), (1, iV vn), (3, pV r1), (4, .slice none 0 0), (5, iV 0)] fun lr4 => ?_
 refine ySq ?_
 refine ySq ?_
 refine yPl [0, 1, 2, 3] ?_
 refine yBb [2, 3] [(10, iV vn), (9, pV b)] [e0 0, e2 1 [iV vn]] [(1, ⟨r1, 0, none⟩, iV vn)] [] trivial (kC (sat_cell h3 0 rfl rfl) nC) ?_
 have h5 := tk3 (sf2 (sf1 (sf2 h3)))
 refine yA ?_
 refine yCl 11 Try.call47 (tcheck_ok b n A E RL vn (by omega)) h5 ?_
 rintro v K w6 (⟨rfl, rfl⟩) h7
 refine ⟨_, rfl, ?_⟩
 have h8 := ap1 h7
 refine yB0 [] [3] [(6, iV 0)] (.mk ?_)
 refine yK [(0, pV b), (1, iV vn), (3, pV r1), (4, .slice none 0 0), (5, iV 0), (6, iV 0)] fun lr9 => ?_
 refine ySq ?_
 refine yPl [0, 1] ?_
 refine yB0 [] [0, 1] [(13, .bool false), (12, iV 0)] (.mk ?_)
 refine yK [(0, pV b), (1, iV vn), (3, pV r1), (4, .slice none 0 0), (5, iV 0), (6, iV 0), (13, .bool false)] fun lr10 => ?_
 refine yCf ?_
 refine ySk ?_
 refine ySq ?_
 refine yPl [0] ?_
 refine yA ?_
 refine yNp 7 45 [.slice none 0 0] h8 fun r11 w12 h13 => ?_
 refine PO.mk ?_
 refine yK [(0, pV b), (1, iV vn), (3, pV r1), (4, .slice none 0 0), (5, iV 0), (6, iV 0), (7, pV r11), (13, .bool false)] fun lr14 => ?_
 refine ySq ?_
 refine ySq ?_
 refine yPl [0, 1] ?_
 refine yB0 [1] [0] [(15, pV b)] ?_
 refine yA ?_
 refine yCl 16 Try.call48 (tall1_ht b) h13 ?_
 rintro v K w16 (⟨b15, rfl, rfl⟩) h17
 refine ⟨_, rfl, ?_⟩
 have h18 := ap1 h17
 refine PO.mk ?_
 refine yK [(0, pV b), (1, iV vn), (3, pV r1), (4, .slice none 0 0), (5, iV 0), (6, iV 0), (7, pV r11), (13, .bool false), (16, .func (Fn.func 62) #[] #[pV b15])] fun lr19 => ?_
 refine yBk 0 ?_
 have hal_ : (allE E).length ≤ 256 := cntE_le E 256
 have h25 : sat g w16 [Sl 28 3 none 0 0 (fl eO []), Cl b15 [pV b] 22, Cl r11 [.slice none 0 0] 45, Tab b n A E RL, Cl r1 [iV vn] 3, R] := sl_nil 28 3 h18
 have h26 := tk6 (sf5 (sf4 (sf3 (sf3 (sf4 (sf5 h25))))))
 refine gi_rf2 (x := (Operand.tmp 16)) (ps := #[17]) (asg := CA Try.f21 [1, 1, 1, 0, 1, 0, 1]) (bd := CA Try.f21 [1, 1, 1, 0, 1, 0, 0]) (gf := 62) (cap := [pV b15]) (N := ((allE E).length)) (xs := fun i => [.agg #[iV (((allE E).getD i noE).d.1), iV (((allE E).getD i noE).d.2.1), uV (((allE E).getD i noE).d.2.2), iV (((allE E).getD i noE).num), iV (((allE E).getD i noE).h.1), uV (((allE E).getD i noE).h.2)]]) (At := [Cl b15 [pV b] 22, Tab b n A E RL]) (K0 := [Cl r1 [iV vn] 3, Cl r11 [.slice none 0 0] 45, Sl 28 3 none 0 0 (fl eO [])]) (L := [R]) (fun i => [(17, .agg #[iV (((allE E).getD i noE).d.1), iV (((allE E).getD i noE).d.2.1), uV (((allE E).getD i noE).d.2.2), iV (((allE E).getD i noE).num), iV (((allE E).getD i noE).h.1), uV (((allE E).getD i noE).h.2)])] ++ (([(0, pV b), (1, iV vn), (3, pV r1), (4, .slice none 0 0), (5, iV 0), (6, iV 0), (7, pV r11), (13, .bool false), (16, .func (Fn.func 62) #[] #[pV b15])] : Fr) ++ lr19)) (fun i rb_ => ([(8, pV rb_), (17, .agg #[iV (((allE E).getD i noE).d.1), iV (((allE E).getD i noE).d.2.1), uV (((allE E).getD i noE).d.2.2), iV (((allE E).getD i noE).num), iV (((allE E).getD i noE).h.1), uV (((allE E).getD i noE).h.2)])] : Fr) ++ (([(0, pV b), (1, iV vn), (3, pV r1), (4, .slice none 0 0), (5, iV 0), (6, iV 0), (7, pV r11), (13, .bool false), (16, .func (Fn.func 62) #[] #[pV b15])] : Fr) ++ lr19)) (fun i rb_ K => ∃ p : Option Addr, ∃ k : Nat, ∃ c : Nat, (k ≤ i) ∧ K = [Cl rb_ [iV (((allE E).getD i noE).d.1), iV (((allE E).getD i noE).d.2.1), uV (((allE E).getD i noE).d.2.2), iV (((allE E).getD i noE).num), iV (((allE E).getD i noE).h.1), uV (((allE E).getD i noE).h.2)] 90, Cl r1 [iV vn] 3, Cl r11 [.slice p k c] 45, Sl 28 3 p k c (fl eO (descT E vn i))]) (fun i K => ∃ p : Option Addr, ∃ k : Nat, ∃ c : Nat, (k ≤ i) ∧ K = [Cl r1 [iV vn] 3, Cl r11 [.slice p k c] 45, Sl 28 3 p k c (fl eO (descT E vn i))]) (fun c i K => False) (by kernel_rfl) (by kernel_rfl) Try.call62 (tall_it b15 b n A E RL) ⟨none, 0, 0, (Nat.le_refl _), rfl⟩ h26 (fun _ _ => rfl) (fun _ _ => rf_frame1 rfl) ?_ ?_ ?_ ?_
 ·
  rintro i hi_ lp_ w27 K_ G ⟨p, k, c, hk_, rfl⟩ h28
  have h29 : sat g w27 [Cl r1 [iV vn] 3, Cl r11 [.slice p k c] 45, Sl 28 3 p k c (fl eO (descT E vn i)), Cl b15 [pV b] 22, Tab b n A E RL, G] := h28
  change WP _ _ (CA Try.f21 [1, 1, 1, 0, 1, 0, 1]) _ (mk 28 (([(17, .agg #[iV (((allE E).getD i noE).d.1), iV (((allE E).getD i noE).d.2.1), uV (((allE E).getD i noE).d.2.2), iV (((allE E).getD i noE).num), iV (((allE E).getD i noE).h.1), uV (((allE E).getD i noE).h.2)]), (0, pV b), (1, iV vn), (3, pV r1), (4, .slice none 0 0), (5, iV 0), (6, iV 0), (7, pV r11), (13, .bool false), (16, .func (Fn.func 62) #[] #[pV b15])] : Fr) ++ lr19)) _
  refine yPl [0, 1] ?_
  refine yA ?_
  refine yNp 8 90 [iV 0, iV 0, uV 0, iV 0, iV 0, uV 0] h29 fun r30 w31 h32 => ?_
  refine yA ?_
  refine yS [(0, iV (((allE E).getD i noE).d.1)), (1, iV (((allE E).getD i noE).d.2.1)), (2, uV (((allE E).getD i noE).d.2.2)), (3, iV (((allE E).getD i noE).num)), (4, iV (((allE E).getD i noE).h.1)), (5, uV (((allE E).getD i noE).h.2))] [iV (((allE E).getD i noE).d.1), iV (((allE E).getD i noE).d.2.1), uV (((allE E).getD i noE).d.2.2), iV (((allE E).getD i noE).num), iV (((allE E).getD i noE).h.1), uV (((allE E).getD i noE).h.2)] h32 fun w33 h34 => ?_
  refine PO.mk ?_
  repeat (first | simp only [Exit.inBlock] | simp only [Exit.then])
  exact ⟨r30, _, rfl, ⟨p, k, c, hk_, rfl⟩, h34⟩
 ·
  rintro i hi37 lp_ w35 rb_ K_ G ⟨p, k, c, hk_, rfl⟩ h36
  have h38 : sat g w35 [Cl rb_ [iV (((allE E).getD i noE).d.1), iV (((allE E).getD i noE).d.2.1), uV (((allE E).getD i noE).d.2.2), iV (((allE E).getD i noE).num), iV (((allE E).getD i noE).h.1), uV (((allE E).getD i noE).h.2)] 90, Cl r1 [iV vn] 3, Cl r11 [.slice p k c] 45, Sl 28 3 p k c (fl eO (descT E vn i)), Cl b15 [pV b] 22, Tab b n A E RL, G] := h36
  change WP _ _ (CA Try.f21 [1, 1, 1, 0, 1, 0, 0]) _ (mk 28 (([(8, pV rb_), (17, .agg #[iV (((allE E).getD i noE).d.1), iV (((allE E).getD i noE).d.2.1), uV (((allE E).getD i noE).d.2.2), iV (((allE E).getD i noE).num), iV (((allE E).getD i noE).h.1), uV (((allE E).getD i noE).h.2)]), (0, pV b), (1, iV vn), (3, pV r1), (4, .slice none 0 0), (5, iV 0), (6, iV 0), (7, pV r11), (13, .bool false), (16, .func (Fn.func 62) #[] #[pV b15])] : Fr) ++ lr19)) _
  refine yBk 1 ?_
  refine ySq ?_
  refine yPl [0, 1, 2, 3] ?_
  refine yBb [3] [(20, iV vn), (19, iV (((allE E).getD i noE).num)), (18, .pointer (some ⟨rb_, 3, none⟩))] [e0 0, e2 1 [iV (((allE E).getD i noE).num)], e2 2 [iV vn]] [(2, ⟨r1, 0, none⟩, iV vn), (1, ⟨rb_, 3, none⟩, iV (((allE E).getD i noE).num))] [] trivial (kC (sat_cell h38 1 rfl rfl) (kC (sat_cell h38 0 rfl rfl) nC)) ?_
  by_cases c39 : ((allE E).getD i noE).num = vn
  ·
   refine yBb [] [(21, .bool true)] [e1 3 (.bool true)] [] [(.bool ((((allE E).getD i noE).num) == vn), .bool true)] ⟨(ov_et (by omega)), trivial⟩ nC (.mk ?_)
   refine yK [(0, pV b), (1, iV vn), (3, pV r1), (4, .slice none 0 0), (5, iV 0), (6, iV 0), (7, pV r11), (8, pV rb_), (13, .bool false), (16, .func (Fn.func 62) #[] #[pV b15]), (17, .agg #[iV (((allE E).getD i noE).d.1), iV (((allE E).getD i noE).d.2.1), uV (((allE E).getD i noE).d.2.2), iV (((allE E).getD i noE).num), iV (((allE E).getD i noE).h.1), uV (((allE E).getD i noE).h.2)]), (21, .bool true)] fun lr40 => ?_
   refine yCt ?_
   refine yPl [0, 1, 2, 3, 4, 5] ?_
   refine yBb [3, 4, 5] [(24, .agg #[iV (((allE E).getD i noE).d.1), iV (((allE E).getD i noE).d.2.1), uV (((allE E).getD i noE).d.2.2)]), (23, pV rb_), (22, .slice p k c)] [e2 0 [.slice p k c], e0 1, e2 2 [iV (((allE E).getD i noE).d.1), iV (((allE E).getD i noE).d.2.1), uV (((allE E).getD i noE).d.2.2)]] [(2, ⟨rb_, 0, none⟩, iV (((allE E).getD i noE).d.1)), (2, ⟨rb_, 1, none⟩, iV (((allE E).getD i noE).d.2.1)), (2, ⟨rb_, 2, none⟩, uV (((allE E).getD i noE).d.2.2)), (0, ⟨r11, 0, none⟩, .slice p k c)] [] trivial (kC (sat_cell h38 0 rfl rfl) (kC (sat_cell h38 0 rfl rfl) (kC (sat_cell h38 0 rfl rfl) (kC (sat_cell h38 2 rfl rfl) nC)))) ?_
   refine yA ?_
   refine an_new (d := 25) (fun xb_ => .slice (some ⟨xb_, 0, none⟩) 1 1) (fun xb_ => Obj.cells [iV (((allE E).getD i noE).d.1), iV (((allE E).getD i noE).d.2.1), uV (((allE E).getD i noE).d.2.2)].toArray 28 (0, 0)) (fun xb_ => by kernel_rfl) (by kernel_rfl) rfl h38 ?_
   intro r41 w42 (h43 : sat g w42 [Cl r41 [iV (((allE E).getD i noE).d.1), iV (((allE E).getD i noE).d.2.1), uV (((allE E).getD i noE).d.2.2)] 28, Cl rb_ [iV (((allE E).getD i noE).d.1), iV (((allE E).getD i noE).d.2.1), uV (((allE E).getD i noE).d.2.2), iV (((allE E).getD i noE).num), iV (((allE E).getD i noE).h.1), uV (((allE E).getD i noE).h.2)] 90, Cl r1 [iV vn] 3, Cl r11 [.slice p k c] 45, Sl 28 3 p k c (fl eO (descT E vn i)), Cl b15 [pV b] 22, Tab b n A E RL, G])
   have h44 := tk8 (sf7 (sf6 (sf6 (sf6 (sf6 (sf7 (sf7 (sf7 h43))))))))
   refine yA ?_
   refine an_append (d := 26) (sz := 3) (s := (Operand.tmp 22)) (x := (Operand.tmp 25)) (z := .agg #[iV 0, iV 0, uV 0]) (p := p) (m := k) (c := c) (k := 1) (c2 := 1) (a := ⟨r41, 0, none⟩) (by_ := 24) (by kernel_rfl) (by kernel_rfl) rfl Try.underlying45 (by kernel_rfl) rfl (by decide) (by kernel_rfl) (by kernel_rfl) h44 (fl eO [(((allE E).getD i noE).d.1, ((allE E).getD i noE).d.2.1, ((allE E).getD i noE).d.2.2)]) rfl (fun j u hj => by rw [add_off]; exact sat_cell h44 1 rfl (by rw [Nat.zero_add]; exact hj)) (fl_one eO_ok _) (by omega) (by omega) (k + 1) (by omega) ?_
   intro p45 cap46 w47 h48
   have h49 : sat g w47 [Sl 28 3 p45 (k + 1) cap46 (fl eO ((descT E vn i) ++ [(((allE E).getD i noE).d.1, ((allE E).getD i noE).d.2.1, ((allE E).getD i noE).d.2.2)])), Cl r41 [iV (((allE E).getD i noE).d.1), iV (((allE E).getD i noE).d.2.1), uV (((allE E).getD i noE).d.2.2)] 28, Cl rb_ [iV (((allE E).getD i noE).d.1), iV (((allE E).getD i noE).d.2.1), uV (((allE E).getD i noE).d.2.2), iV (((allE E).getD i noE).num), iV (((allE E).getD i noE).h.1), uV (((allE E).getD i noE).h.2)] 90, Cl r1 [iV vn] 3, Cl r11 [.slice p k c] 45, Cl b15 [pV b] 22, Tab b n A E RL, G] := sat_imp h48 (fun _ hh => by rw [fl_app]; exact hh)
   obtain ⟨hn50, hn51⟩ := sl_le h49
   have h52 := tk8 (sf7 (sf6 (sf6 (sf6 (sf6 (sf7 (sf7 (sf7 h49))))))))
   refine yA ?_
   refine yS [(0, .slice p45 (k + 1) cap46)] [.slice p45 (k + 1) cap46] h52 fun w53 h54 => ?_
   refine PO.mk ?_
   repeat (first | simp only [Exit.inBlock] | simp only [Exit.then])
   have h55 := tk8 (sf7 (sf6 (sf7 (sf7 (sf7 (sf7 (sf7 (sf7 h54))))))))
   have h56 : sat g w53 [Sl 28 3 p45 (k + 1) cap46 (fl eO (descT E vn (i + 1))), Cl r11 [.slice p45 (k + 1) cap46] 45, Cl r41 [iV (((allE E).getD i noE).d.1), iV (((allE E).getD i noE).d.2.1), uV (((allE E).getD i noE).d.2.2)] 28, Cl rb_ [iV (((allE E).getD i noE).d.1), iV (((allE E).getD i noE).d.2.1), uV (((allE E).getD i noE).d.2.2), iV (((allE E).getD i noE).num), iV (((allE E).getD i noE).h.1), uV (((allE E).getD i noE).h.2)] 90, Cl r1 [iV vn] 3, Cl b15 [pV b] 22, Tab b n A E RL, G] := sat_imp h55 (fun _ hh_ => by rw [show (((descT E vn i) ++ [(((allE E).getD i noE).d.1, ((allE E).getD i noE).d.2.1, ((allE E).getD i noE).d.2.2)]) : List Ky) = (descT E vn (i + 1)) from descT_go hi37 (by omega)] at hh_; exact hh_)
   have h57 := tk8 (sf7 (sf6 (sf5 (sf7 (sf7 (sf7 (sf3 (sf3 h56))))))))
   have h58 := tk6 h57
   exact ⟨_, ⟨p45, k + 1, cap46, (by omega), rfl⟩, h58⟩
  ·
   refine yBb [] [(21, .bool false)] [e1 3 (.bool false)] [] [(.bool ((((allE E).getD i noE).num) == vn), .bool false)] ⟨(ov_ef (by omega)), trivial⟩ nC (.mk ?_)
   refine yK [(0, pV b), (1, iV vn), (3, pV r1), (4, .slice none 0 0), (5, iV 0), (6, iV 0), (7, pV r11), (8, pV rb_), (13, .bool false), (16, .func (Fn.func 62) #[] #[pV b15]), (17, .agg #[iV (((allE E).getD i noE).d.1), iV (((allE E).getD i noE).d.2.1), uV (((allE E).getD i noE).d.2.2), iV (((allE E).getD i noE).num), iV (((allE E).getD i noE).h.1), uV (((allE E).getD i noE).h.2)]), (21, .bool false)] fun lr59 => ?_
   refine yCf ?_
   refine ySk ?_
   repeat (first | simp only [Exit.inBlock] | simp only [Exit.then])
   have h60 := tk7 (sf6 (sf5 (sf5 (sf5 (sf6 (sf6 (sf6 h38)))))))
   have h61 : sat g w35 [Sl 28 3 p k c (fl eO (descT E vn (i + 1))), Cl rb_ [iV (((allE E).getD i noE).d.1), iV (((allE E).getD i noE).d.2.1), uV (((allE E).getD i noE).d.2.2), iV (((allE E).getD i noE).num), iV (((allE E).getD i noE).h.1), uV (((allE E).getD i noE).h.2)] 90, Cl r1 [iV vn] 3, Cl r11 [.slice p k c] 45, Cl b15 [pV b] 22, Tab b n A E RL, G] := sat_imp h60 (fun _ hh_ => by rw [show ((descT E vn i) : List Ky) = (descT E vn (i + 1)) from descT_no hi37 (by omega)] at hh_; exact hh_)
   have h62 := tk7 (sf6 (sf6 (sf4 (sf6 (sf6 (sf6 (sf1 h61)))))))
   have h63 := tk6 h62
   exact ⟨_, ⟨p, k, c, (by omega), rfl⟩, h63⟩
 ·
  rintro D64 w65 K_ ⟨p, k, c, hk_, rfl⟩ h66
  have h67 : sat g w65 [pt D64 (Obj.deferred (some [])), Cl r1 [iV vn] 3, Cl r11 [.slice p k c] 45, Sl 28 3 p k c (fl eO (descT E vn (((allE E).length)))), Cl b15 [pV b] 22, Tab b n A E RL, R] := h66
  refine yK [(7, pV r11)] fun lr68 => ?_
  refine ySq ?_
  refine yPl [0, 1, 2] ?_
  refine yBb [] [(5, iV 0), (4, .slice p k c), (27, .slice p k c)] [e2 0 [.slice p k c], e0 1, e0 2] [(0, ⟨r11, 0, none⟩, .slice p k c)] [] trivial (kC (sat_cell h67 2 rfl rfl) nC) (.mk ?_)
  refine yK [(4, .slice p k c), (5, iV 0)] fun lr69 => ?_
  refine yRt ?_
  repeat (first | simp only [Exit.inBlock] | simp only [Exit.then])
  have h70 := tk7 (sf6 (sf5 (sf5 (sf5 (sf6 (sf6 (sf6 h67)))))))
  have h71 : sat g w65 [Sl 28 3 p k c (fl eO (descs E vn)), pt D64 (Obj.deferred (some [])), Cl r1 [iV vn] 3, Cl r11 [.slice p k c] 45, Cl b15 [pV b] 22, Tab b n A E RL, R] := sat_imp h70 (fun _ hh_ => by rw [show ((descT E vn (((allE E).length))) : List Ky) = (descs E vn) from descT_all E vn] at hh_; exact hh_)
  have hl72 := fl_n eO_ok (by decide) h71
  have h73 : sat g w65 [Sl 28 3 p (((descs E vn).length)) c (fl eO (descs E vn)), pt D64 (Obj.deferred (some [])), Cl r1 [iV vn] 3, Cl r11 [.slice p k c] 45, Cl b15 [pV b] 22, Tab b n A E RL, R] := sat_imp h71 (fun _ hh_ => by rw [hl72]; exact hh_)
  have h74 := tk7 (sf6 (sf5 (sf6 (sf6 (sf6 (sf6 (sf6 h73)))))))
  refine hi_out1 h74 [] (.tuple #[.slice p k c, iV 0]) [] (by kernel_rfl) (fun w76 h75 => ⟨?_, ?_⟩)
  · exact (by intro q hq; cases hq)
  ·
   have h77 : sat g w76 [pt D64 (Obj.deferred none), Sl 28 3 p (((descs E vn).length)) c (fl eO (descs E vn)), Cl r1 [iV vn] 3, Cl r11 [.slice p k c] 45, Cl b15 [pV b] 22, Tab b n A E RL, R] := h75
   have h78 := tk7 (sf6 (sf5 (sf4 (sf5 (sf5 (sf5 (sf6 h77)))))))
   have h79 := tk3 (sf2 (sf2 (sf6 h78)))
   exact ⟨.tuple #[.slice p k c, iV 0], [Tab b n A E RL, Sl 28 3 p (((descs E vn).length)) c (fl eO (descs E vn))], rfl, ⟨p, c, by rw [hl72], rfl⟩, h79⟩
 ·
  intro _ _ _ _ _ _ hf_; exact hf_.elim

set_option maxHeartbeats 4000000 in
theorem tdescs_no (b n : Nat) (A : List Sl2) (E : Tm) (RL : List Rs) (vn : Int) (h : vn < 1 ∨ (RL.length : Int) < vn) : HT Try.prog 21 [Value.pointer (some ⟨b, 0, none⟩), Value.int IntKind.i64 vn] [Tab b n A E RL] (fun v K => v = Value.tuple #[Value.slice none 0 0, Value.int IntKind.i64 3] ∧ K = [Tab b n A E RL]) := by
 refine hi_in 28 ([(0, pV b), (1, iV vn)] : Fr) Try.func21 (by kernel_rfl) Try.ntmps21 rfl rfl ?_
 intro g w0 R h0
 refine ySq ?_
 refine yPl [0, 1, 2] ?_
 refine yA ?_
 refine yNp 3 3 [iV vn] h0 fun r1 w2 h3 => ?_
 refine yB0 [] [1, 2] [(5, iV 0), (4, .slice none 0 0)] (.mk ?_)
 refine yK [(0, pV b), (1, iV vn), (3, pV r1), (4, .slice none 0 0), (5, iV 0)] fun lr4 => ?_
 refine ySq ?_
 refine ySq ?_
 refine yPl [0, 1, 2, 3] ?_
 refine yBb [2, 3] [(10, iV vn), (9, pV b)] [e0 0, e2 1 [iV vn]] [(1, ⟨r1, 0, none⟩, iV vn)] [] trivial (kC (sat_cell h3 0 rfl rfl) nC) ?_
 by_cases c5 : 1 ≤ vn
 ·
  have h6 := tk3 (sf2 (sf1 (sf2 h3)))
  refine yA ?_
  refine yCl 11 Try.call47 (tcheck_no b n A E RL vn (by omega)) h6 ?_
  rintro v K w7 (⟨rfl, rfl⟩) h8
  refine ⟨_, rfl, ?_⟩
  have h9 := ap1 h8
  refine yB0 [] [3] [(6, iV 3)] (.mk ?_)
  refine yK [(0, pV b), (1, iV vn), (3, pV r1), (4, .slice none 0 0), (5, iV 0), (6, iV 3)] fun lr10 => ?_
  refine ySq ?_
  refine yPl [0, 1] ?_
  refine yB0 [] [0, 1] [(13, .bool true), (12, iV 3)] (.mk ?_)
  refine yK [(0, pV b), (1, iV vn), (3, pV r1), (4, .slice none 0 0), (5, iV 0), (6, iV 3), (13, .bool true)] fun lr11 => ?_
  refine yCt ?_
  refine ySq ?_
  refine yPl [0, 1, 2] ?_
  refine yB0 [] [0, 1, 2] [(5, iV 3), (4, .slice none 0 0), (14, iV 3)] (.mk ?_)
  refine yK [(4, .slice none 0 0), (5, iV 3)] fun lr12 => ?_
  refine yRt ?_
  repeat (first | simp only [Exit.inBlock] | simp only [Exit.then])
  have h13 := tk2 (sf1 (sf2 h9))
  refine hi_out [] (.tuple #[.slice none 0 0, iV 3]) [] (by kernel_rfl) (by intro q hq; cases hq) ?_
  exact ⟨.tuple #[.slice none 0 0, iV 3], [Tab b n A E RL], rfl, ⟨rfl, rfl⟩, h13⟩
 ·
  have h14 := tk3 (sf2 (sf1 (sf2 h3)))
  refine yA ?_
  refine yCl 11 Try.call47 (tcheck_no b n A E RL vn (by omega)) h14 ?_
  rintro v K w15 (⟨rfl, rfl⟩) h16
  refine ⟨_, rfl, ?_⟩
  have h17 := ap1 h16
  refine yB0 [] [3] [(6, iV 3)] (.mk ?_)
  refine yK [(0, pV b), (1, iV vn), (3, pV r1), (4, .slice none 0 0), (5, iV 0), (6, iV 3)] fun lr18 => ?_
  refine ySq ?_
  refine yPl [0, 1] ?_
  refine yB0 [] [0, 1] [(13, .bool true), (12, iV 3)] (.mk ?_)
  refine yK [(0, pV b), (1, iV vn), (3, pV r1), (4, .slice none 0 0), (5, iV 0), (6, iV 3), (13, .bool true)] fun lr19 => ?_
  refine yCt ?_
  refine ySq ?_
  refine yPl [0, 1, 2] ?_
  refine yB0 [] [0, 1, 2] [(5, iV 3), (4, .slice none 0 0), (14, iV 3)] (.mk ?_)
  refine yK [(4, .slice none 0 0), (5, iV 3)] fun lr20 => ?_
  refine yRt ?_
  repeat (first | simp only [Exit.inBlock] | simp only [Exit.then])
  have h21 := tk2 (sf1 (sf2 h17))
  refine hi_out [] (.tuple #[.slice none 0 0, iV 3]) [] (by kernel_rfl) (by intro q hq; cases hq) ?_
  exact ⟨.tuple #[.slice none 0 0, iV 3], [Tab b n A E RL], rfl, ⟨rfl, rfl⟩, h21⟩

end Go.Proofs.Ytjjpmehiolejgaa
