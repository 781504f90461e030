/- Walks, printed by my generator ../out/a0.py. -/
import Derived.Test.YtehlamblpekmkaaGreatDoorProg
import Derived.Test.YtehlamblpekmkaaGreatDoorBundle29
import Derived.Test.YtehlamblpekmkaaGreatDoorRws
import Derived.Test.YtehlamblpekmkaaGreatDoorRn2
namespace Go.Proofs.YtehlamblpekmkaaGreatDoor
set_option maxHeartbeats 4000000
open Go.RowKit
abbrev letW : List Value := [.int .u8 0, .int .u8 111, .int .u8 108, .int .u8 102]
def Lett (wo : World) : Prop := ∀ (k : Nat) (v : Value), letW[k]? = some v → wo.cell? ⟨0, k, none⟩ = some v
def Sr (T b : Nat) (L : List Int) : Assn := fun h => L.length ≤ 2000 ∧ ∃ x : Option Addr × Nat, star [Cl b [.bool true, .slice x.1 L.length x.2] T, Vw 3 1 x.1 L.length x.2 (fl eI L)] h
section
variable {g w : World} {A : List Assn} {T b : Nat} {L : List Int} {l : List UInt8} {p ad : Option Addr} {c : Nat}
theorem sr_open (h : sat g w (Sr T b L :: A)) : L.length ≤ 2000 ∧ ∃ p c, sat g w (Cl b [.bool true, .slice p L.length c] T :: Vw 3 1 p L.length c (fl eI L) :: A) := by
  obtain ⟨⟨p, c⟩, hl, h1⟩ := sat_open (X := Option Addr × Nat) (p := fun _ => L.length ≤ 2000) (B := fun x => star [Cl b [.bool true, .slice x.1 L.length x.2] T, Vw 3 1 x.1 L.length x.2 (fl eI L)]) h (fun k hk => by
    obtain ⟨h1, x, h2⟩ := hk
    exact ⟨x, h1, h2⟩)
  exact ⟨hl, p, c, sat_unstar h1⟩
theorem sr_close (hl : L.length ≤ 2000) (h : sat g w (Cl b [.bool true, .slice p L.length c] T :: Vw 3 1 p L.length c (fl eI L) :: A)) : sat g w (Sr T b L :: A) :=
  sat_imp (sat_star (K := [Cl b [.bool true, .slice p L.length c] T, Vw 3 1 p L.length c (fl eI L)]) h) fun k hk => ⟨hl, (p, c), hk⟩
end
section
variable {g w : World} {A : List Assn} {T b : Nat} {L : List Int} {p : Option Addr} {c : Nat}
theorem sr_next {q : Option Addr} {b' off off' : Nat} (hp : p = some ⟨b', off, none⟩) (hq : q = some ⟨b', off', none⟩) (hn : 0 < L.length) (ho : (if c = 1 then off else off + 1 * 1) = off') (h : sat g w (Vw 3 1 p L.length c (fl eI L) :: A)) : sat g w (Vw 3 1 q L.tail.length (c - 1) (fl eI L.tail) :: A) := by
  have h1 := vw_drop (i := 1) hp hn ho hq h
  rw [fl_drop eI_ok, tl_drop] at h1
  rw [List.length_tail]
  exact h1
end
end Go.Proofs.YtehlamblpekmkaaGreatDoor

/- Walks, printed by my generator ../out/a1.py. -/
namespace Go.Proofs.YtehlamblpekmkaaGreatDoor
set_option maxHeartbeats 4000000
theorem index_ht (wo : World) (hg : Lett wo) (z : Int) : HT Tryz.prog 267 [Value.slice (some ⟨0, 1, none⟩) 3 3, Value.int IntKind.u8 z] [Old wo] (fun v K => v = Value.int .i64 (ix z) ∧ K = [Old wo]) := by
 refine hi_in 19 ([(0, .slice (some ⟨0, 1, none⟩) 3 3), (1, yV z)] : Fr) Tryz.func267 (by kernel_rfl) Tryz.ntmps267 rfl rfl ?_
 intro g w0 R h0
 refine ySq ?_
 refine yPl [0] ?_
 refine yB0 [] [0] [(4, iV 0)] (.mk ?_)
 refine yK [(0, .slice (some ⟨0, 1, none⟩) 3 3), (1, yV z)] fun lr1 => ?_
 refine ySq ?_
 refine ySq ?_
 refine yPl [0, 1, 2] ?_
 refine yBb [] [(8, iV 0), (7, iV 3), (6, .slice (some ⟨0, 1, none⟩) 3 3)] [e0 0, e1 1 (iV 3), e0 2] [] [(iV (3 : Int), iV 3)] ⟨(ov_int (by omega)), trivial⟩ nC (.mk ?_)
 refine yK [(0, .slice (some ⟨0, 1, none⟩) 3 3), (1, yV z), (7, iV 3), (8, iV 0)] fun lr2 => ?_
 refine yBk 0 ?_
 refine gi_unr (x := CA Tryz.f267 [1, 0, 1, 0, 0]) 4 (by kernel_rfl) ?_
 refine ySq ?_
 refine yPl [0] ?_
 refine yB0 [] [0] [(9, .bool true)] (.mk ?_)
 refine yK [(0, .slice (some ⟨0, 1, none⟩) 3 3), (1, yV z), (7, iV 3), (8, iV 0), (9, .bool true)] fun lr3 => ?_
 refine ySq ?_
 refine yCt ?_
 refine ySk ?_
 refine ySq ?_
 refine yBk 1 ?_
 refine ySq ?_
 refine yPl [0, 1] ?_
 refine yB0 [] [0, 1] [(5, iV 0), (10, iV 0)] (.mk ?_)
 refine yK [(0, .slice (some ⟨0, 1, none⟩) 3 3), (1, yV z), (5, iV 0), (7, iV 3), (8, iV 0)] fun lr4 => ?_
 refine ySq ?_
 refine yPl [0, 1, 2, 3, 4, 5] ?_
 refine yB0 [3, 4, 5] [0, 1, 2] [(13, iV 0), (12, .slice (some ⟨0, 1, none⟩) 3 3), (11, yV z)] ?_
 refine plain_law (i := 3) 14 (.pointer (some ⟨0, 1, none⟩)) (by kernel_rfl) (law_indexSl (o := opA (RA Tryz.f267 [1, 0, 1, 0, 0, 1, 1, 0, 0, 1, 0]) 3) (x := (Operand.tmp 12)) (i := (Operand.tmp 13)) (b := 0) (off := 1) (z := 0) (len := 3) (cap := 3) (by kernel_rfl) Tryz.underlying161 1 (by kernel_rfl) 0 (by kernel_rfl) (by kernel_rfl) (by omega) (by omega) 1 (by omega) _) ?_
 refine yBb [5] [(15, yV 111)] [e2 4 [yV 111]] [(4, ⟨0, 1, none⟩, yV 111)] [] trivial (kC (sat_cellOld h0 0 rfl (hg 1 _ rfl)) nC) ?_
 by_cases c5 : z = 111
 ·
  refine yBb [] [(16, .bool true)] [e1 5 (.bool true)] [] [(.bool (z == 111), .bool true)] ⟨(ov_et (by omega)), trivial⟩ nC (.mk ?_)
  refine yK [(0, .slice (some ⟨0, 1, none⟩) 3 3), (1, yV z), (5, iV 0), (7, iV 3), (8, iV 0), (16, .bool true)] fun lr6 => ?_
  refine yCt ?_
  refine ySq ?_
  refine yPl [0, 1] ?_
  refine yB0 [] [0, 1] [(4, iV 0), (17, iV 0)] (.mk ?_)
  refine yK [(4, iV 0)] fun lr7 => ?_
  refine yRt ?_
  repeat (first | simp only [Exit.inBlock] | simp only [Exit.then])
  refine hi_out [] (iV 0) [] (by kernel_rfl) (by intro q hq; cases hq) ?_
  exact ⟨iV 0, [Old wo], rfl, ⟨congrArg (Value.int .i64) (by unfold ix; (repeat split) <;> omega), rfl⟩, h0⟩
 ·
  refine yBb [] [(16, .bool false)] [e1 5 (.bool false)] [] [(.bool (z == 111), .bool false)] ⟨(ov_ef (by omega)), trivial⟩ nC (.mk ?_)
  refine yK [(0, .slice (some ⟨0, 1, none⟩) 3 3), (1, yV z), (5, iV 0), (7, iV 3), (8, iV 0), (16, .bool false)] fun lr8 => ?_
  refine yCf ?_
  refine ySk ?_
  refine yPl [0, 1] ?_
  refine yB0 [] [0, 1] [(8, iV 1), (18, iV 1)] (.mk ?_)
  refine yK [(0, .slice (some ⟨0, 1, none⟩) 3 3), (1, yV z), (5, iV 0), (7, iV 3), (8, iV 1), (16, .bool false)] fun lr9 => ?_
  refine ySq ?_
  refine yPl [0] ?_
  refine yB0 [] [0] [(9, .bool true)] (.mk ?_)
  refine yK [(0, .slice (some ⟨0, 1, none⟩) 3 3), (1, yV z), (7, iV 3), (8, iV 1), (9, .bool true)] fun lr10 => ?_
  refine ySq ?_
  refine yCt ?_
  refine ySk ?_
  refine ySq ?_
  refine yBk 1 ?_
  refine ySq ?_
  refine yPl [0, 1] ?_
  refine yB0 [] [0, 1] [(5, iV 1), (10, iV 1)] (.mk ?_)
  refine yK [(0, .slice (some ⟨0, 1, none⟩) 3 3), (1, yV z), (5, iV 1), (7, iV 3), (8, iV 1)] fun lr11 => ?_
  refine ySq ?_
  refine yPl [0, 1, 2, 3, 4, 5] ?_
  refine yB0 [3, 4, 5] [0, 1, 2] [(13, iV 1), (12, .slice (some ⟨0, 1, none⟩) 3 3), (11, yV z)] ?_
  refine plain_law (i := 3) 14 (.pointer (some ⟨0, 2, none⟩)) (by kernel_rfl) (law_indexSl (o := opA (RA Tryz.f267 [1, 0, 1, 0, 0, 1, 1, 0, 0, 1, 0]) 3) (x := (Operand.tmp 12)) (i := (Operand.tmp 13)) (b := 0) (off := 1) (z := 1) (len := 3) (cap := 3) (by kernel_rfl) Tryz.underlying161 1 (by kernel_rfl) 1 (by kernel_rfl) (by kernel_rfl) (by omega) (by omega) 2 (by omega) _) ?_
  refine yBb [5] [(15, yV 108)] [e2 4 [yV 108]] [(4, ⟨0, 2, none⟩, yV 108)] [] trivial (kC (sat_cellOld h0 0 rfl (hg 2 _ rfl)) nC) ?_
  by_cases c12 : z = 108
  ·
   refine yBb [] [(16, .bool true)] [e1 5 (.bool true)] [] [(.bool (z == 108), .bool true)] ⟨(ov_et (by omega)), trivial⟩ nC (.mk ?_)
   refine yK [(0, .slice (some ⟨0, 1, none⟩) 3 3), (1, yV z), (5, iV 1), (7, iV 3), (8, iV 1), (16, .bool true)] fun lr13 => ?_
   refine yCt ?_
   refine ySq ?_
   refine yPl [0, 1] ?_
   refine yB0 [] [0, 1] [(4, iV 1), (17, iV 1)] (.mk ?_)
   refine yK [(4, iV 1)] fun lr14 => ?_
   refine yRt ?_
   repeat (first | simp only [Exit.inBlock] | simp only [Exit.then])
   refine hi_out [] (iV 1) [] (by kernel_rfl) (by intro q hq; cases hq) ?_
   exact ⟨iV 1, [Old wo], rfl, ⟨congrArg (Value.int .i64) (by unfold ix; (repeat split) <;> omega), rfl⟩, h0⟩
  ·
   refine yBb [] [(16, .bool false)] [e1 5 (.bool false)] [] [(.bool (z == 108), .bool false)] ⟨(ov_ef (by omega)), trivial⟩ nC (.mk ?_)
   refine yK [(0, .slice (some ⟨0, 1, none⟩) 3 3), (1, yV z), (5, iV 1), (7, iV 3), (8, iV 1), (16, .bool false)] fun lr15 => ?_
   refine yCf ?_
   refine ySk ?_
   refine yPl [0, 1] ?_
   refine yB0 [] [0, 1] [(8, iV 2), (18, iV 2)] (.mk ?_)
   refine yK [(0, .slice (some ⟨0, 1, none⟩) 3 3), (1, yV z), (5, iV 1), (7, iV 3), (8, iV 2), (16, .bool false)] fun lr16 => ?_
   refine ySq ?_
   refine yPl [0] ?_
   refine yB0 [] [0] [(9, .bool true)] (.mk ?_)
   refine yK [(0, .slice (some ⟨0, 1, none⟩) 3 3), (1, yV z), (7, iV 3), (8, iV 2), (9, .bool true)] fun lr17 => ?_
   refine ySq ?_
   refine yCt ?_
   refine ySk ?_
   refine ySq ?_
   refine yBk 1 ?_
   refine ySq ?_
   refine yPl [0, 1] ?_
   refine yB0 [] [0, 1] [(5, iV 2), (10, iV 2)] (.mk ?_)
   refine yK [(0, .slice (some ⟨0, 1, none⟩) 3 3), (1, yV z), (5, iV 2), (7, iV 3), (8, iV 2)] fun lr18 => ?_
   refine ySq ?_
   refine yPl [0, 1, 2, 3, 4, 5] ?_
   refine yB0 [3, 4, 5] [0, 1, 2] [(13, iV 2), (12, .slice (some ⟨0, 1, none⟩) 3 3), (11, yV z)] ?_
   refine plain_law (i := 3) 14 (.pointer (some ⟨0, 3, none⟩)) (by kernel_rfl) (law_indexSl (o := opA (RA Tryz.f267 [1, 0, 1, 0, 0, 1, 1, 0, 0, 1, 0]) 3) (x := (Operand.tmp 12)) (i := (Operand.tmp 13)) (b := 0) (off := 1) (z := 2) (len := 3) (cap := 3) (by kernel_rfl) Tryz.underlying161 1 (by kernel_rfl) 2 (by kernel_rfl) (by kernel_rfl) (by omega) (by omega) 3 (by omega) _) ?_
   refine yBb [5] [(15, yV 102)] [e2 4 [yV 102]] [(4, ⟨0, 3, none⟩, yV 102)] [] trivial (kC (sat_cellOld h0 0 rfl (hg 3 _ rfl)) nC) ?_
   by_cases c19 : z = 102
   ·
    refine yBb [] [(16, .bool true)] [e1 5 (.bool true)] [] [(.bool (z == 102), .bool true)] ⟨(ov_et (by omega)), trivial⟩ nC (.mk ?_)
    refine yK [(0, .slice (some ⟨0, 1, none⟩) 3 3), (1, yV z), (5, iV 2), (7, iV 3), (8, iV 2), (16, .bool true)] fun lr20 => ?_
    refine yCt ?_
    refine ySq ?_
    refine yPl [0, 1] ?_
    refine yB0 [] [0, 1] [(4, iV 2), (17, iV 2)] (.mk ?_)
    refine yK [(4, iV 2)] fun lr21 => ?_
    refine yRt ?_
    repeat (first | simp only [Exit.inBlock] | simp only [Exit.then])
    refine hi_out [] (iV 2) [] (by kernel_rfl) (by intro q hq; cases hq) ?_
    exact ⟨iV 2, [Old wo], rfl, ⟨congrArg (Value.int .i64) (by unfold ix; (repeat split) <;> omega), rfl⟩, h0⟩
   ·
    refine yBb [] [(16, .bool false)] [e1 5 (.bool false)] [] [(.bool (z == 102), .bool false)] ⟨(ov_ef (by omega)), trivial⟩ nC (.mk ?_)
    refine yK [(0, .slice (some ⟨0, 1, none⟩) 3 3), (1, yV z), (5, iV 2), (7, iV 3), (8, iV 2), (16, .bool false)] fun lr22 => ?_
    refine yCf ?_
    refine ySk ?_
    refine yPl [0, 1] ?_
    refine yB0 [] [0, 1] [(8, iV 3), (18, iV 3)] (.mk ?_)
    refine yK [(0, .slice (some ⟨0, 1, none⟩) 3 3), (1, yV z), (5, iV 2), (7, iV 3), (8, iV 3), (16, .bool false)] fun lr23 => ?_
    refine ySq ?_
    refine yPl [0] ?_
    refine yB0 [] [0] [(9, .bool false)] (.mk ?_)
    refine yK [(0, .slice (some ⟨0, 1, none⟩) 3 3), (1, yV z), (7, iV 3), (8, iV 3), (9, .bool false)] fun lr24 => ?_
    refine ySq ?_
    refine yCf ?_
    refine yEx 0 ?_
    refine ySq ?_
    refine yPl [0] ?_
    refine yB0 [] [0] [(4, iV (-1))] (.mk ?_)
    refine yK [(4, iV (-1))] fun lr25 => ?_
    refine yRt ?_
    repeat (first | simp only [Exit.inBlock] | simp only [Exit.then])
    refine hi_out [] (iV (-1)) [] (by kernel_rfl) (by intro q hq; cases hq) ?_
    exact ⟨iV (-1), [Old wo], rfl, ⟨congrArg (Value.int .i64) (by unfold ix; (repeat split) <;> omega), rfl⟩, h0⟩

theorem read_ht (l : List UInt8) : HT Tryz.prog 217 [Value.string (St l)] [] (fun v K => ∃ b, v = Value.func (Fn.func 266) #[] #[Value.pointer (some ⟨b, 0, none⟩)] ∧ K = [Cl b [Value.string (St l)] 9]) := by
 refine hi_in 4 ([(0, .string (St l))] : Fr) Tryz.func217 (by kernel_rfl) Tryz.ntmps217 rfl rfl ?_
 intro g w0 R h0
 refine ySq ?_
 refine yPl [0, 1] ?_
 refine yA ?_
 refine yNp 1 9 [.string (St l)] h0 fun r1 w2 h3 => ?_
 refine yB0 [] [1] [(2, Value.nilFunc)] (.mk ?_)
 refine yK [(1, pV r1)] fun lr4 => ?_
 refine ySq ?_
 refine yPl [0, 1] ?_
 refine yB0 [] [0, 1] [(2, .func (Fn.func 266) #[] #[pV r1]), (3, .func (Fn.func 266) #[] #[pV r1])] (.mk ?_)
 refine yK [(2, .func (Fn.func 266) #[] #[pV r1])] fun lr5 => ?_
 refine yRt ?_
 repeat (first | simp only [Exit.inBlock] | simp only [Exit.then])
 refine hi_out [] (.func (Fn.func 266) #[] #[pV r1]) [] (by kernel_rfl) (by intro q hq; cases hq) ?_
 exact ⟨.func (Fn.func 266) #[] #[pV r1], [Cl r1 [.string (St l)] 9], rfl, ⟨r1, rfl, rfl⟩, h3⟩

theorem read_it (wo : World) (hg : Lett wo) (b : Nat) (l : List UInt8) (hl : l.length ≤ 1099511627776) : IT Tryz.prog 266 [Value.pointer (some ⟨b, 0, none⟩)] ((gl l)) ((fun i => [Value.int IntKind.i64 (cd (l.getD i 0))])) [Cl b [Value.string (St l)] 9, Old wo] := by
 have hgl := gl_le l
 refine it_in 25 (fun k_ => ([(0, .func (Fn.yield k_) #[] #[]), (1, pV b)] : Fr)) Tryz.func266 (by kernel_rfl) Tryz.ntmps266 rfl (fun _ => rfl) ?_
 intro g w0 R k_ J_ E_ hY h0
 have h1 : sat g w0 [J_ 0, Cl b [.string (St l)] 9, Old wo, R] := h0
 change WP _ _ (CA Tryz.f266 []) _ (mk 25 (([(0, .func (Fn.yield k_) #[] #[]), (1, pV b)] : Fr))) _
 refine ySq ?_
 refine yPl [0, 1, 2] ?_
 refine yBb [] [(7, iV 0), (6, iV (((l.length : Nat) : Int))), (5, .string (St l))] [e2 0 [.string (St l)], e1 1 (iV (((l.length : Nat) : Int))), e0 2] [(0, ⟨b, 0, none⟩, .string (St l))] [(iV ((St l).size : Int), iV (((l.length : Nat) : Int)))] ⟨(ov_int (st_len _)), trivial⟩ (kC (sat_cell h1 1 rfl rfl) nC) (.mk ?_)
 refine yK [(0, .func (Fn.yield k_) #[] #[]), (1, pV b), (6, iV (((l.length : Nat) : Int))), (7, iV 0)] fun lr2 => ?_
 refine yBk 0 ?_
 refine gi_lp (x := CA Tryz.f266 [1, 0, 0]) (by kernel_rfl) (fun mz_ a w => ∃ i : Nat, ∃ lr : Fr, mz_ = l.length - i ∧ (i ≤ gl l) ∧ a = mk 25 (([(0, .func (Fn.yield k_) #[] #[]), (1, pV b), (6, iV (((l.length : Nat) : Int))), (7, iV (i : Int))] : Fr) ++ lr) ∧ sat g w [J_ i, Cl b [.string (St l)] 9, Old wo, R]) (l.length - 0) ⟨0, _, rfl, (Nat.zero_le _), (mk_live [(0, .func (Fn.yield k_) #[] #[]), (1, pV b), (6, iV (((l.length : Nat) : Int))), (7, iV (0 : Int))] ⟨rfl, rfl, rfl, (ov_int (by omega)), trivial⟩), h1⟩ ?_
 rintro m4 a5 w6 ⟨i, lr3, rfl, hi, rfl, h7⟩
 refine ySq ?_
 refine yPl [0] ?_
 by_cases c8 : (i : Int) < ((l.length : Nat) : Int)
 ·
  refine yBb [] [(8, .bool true)] [e1 0 (.bool true)] [] [(.bool (decide ((i : Int) < ((l.length : Nat) : Int))), .bool true)] ⟨(ov_t (by omega)), trivial⟩ nC (.mk ?_)
  refine yK [(0, .func (Fn.yield k_) #[] #[]), (1, pV b), (6, iV (((l.length : Nat) : Int))), (7, iV (i : Int)), (8, .bool true)] fun lr9 => ?_
  refine ySq ?_
  refine yCt ?_
  refine ySk ?_
  refine ySq ?_
  refine yBk 1 ?_
  refine ySq ?_
  refine yPl [0, 1] ?_
  refine yB0 [] [0, 1] [(3, iV (i : Int)), (9, iV (i : Int))] (.mk ?_)
  refine yK [(0, .func (Fn.yield k_) #[] #[]), (1, pV b), (3, iV (i : Int)), (6, iV (((l.length : Nat) : Int))), (7, iV (i : Int))] fun lr10 => ?_
  refine ySq ?_
  refine gi_drw (id := 3) (ops := RA Tryz.f266 [1, 0, 0, 1, 1, 0, 0, 1, 0]) (Tr.fl 0 (Tr.fl 1 (Tr.fl 2 (Tr.fl 3 (Tr.an 4 (Tr.fl 5 (Tr.fl 6 Tr.nil))))))) (by kernel_rfl) (by kernel_rfl) (by kernel_rfl) (by kernel_rfl) (by kernel_rfl) (fun _ _ d _ _ h => by cases d <;> exact h) h7 ?_
  intro w11 h12
  refine draw_law (i := 0) 10 (.slice (some ⟨0, 1, none⟩) 3 3) [] (by kernel_rfl) (fun _ _ => law_sliceArr (o := opA (RA Tryz.f266 [1, 0, 0, 1, 1, 0, 0, 1, 0]) 0) (x := (Operand.global 0)) (lo := (some (Operand.const (iV 1)))) (hi := none) (b := 0) (off := 0) (by kernel_rfl) Tryz.underlying353 1 (by kernel_rfl) 1 4 1 4 (by kernel_rfl) (show fe _ _ (Operand.const (iV 1)) = _ from by kernel_rfl) rfl (by omega) (by omega) (by omega) (by omega) 1 ((if_neg (by omega)).trans (by omega)) 3 3 (by omega) (by omega) _) (by intro q hq; cases hq) ?_
  obtain ⟨x13, hx14⟩ : ∃ x, l[i]? = some x := ⟨_, List.getElem?_eq_getElem (by omega)⟩
  have hb15 := u8_lt x13
  refine yD _ [(12, iV (i : Int)), (11, .string (St l))] [e2 1 [.string (St l)], e0 2] [(1, ⟨b, 0, none⟩, .string (St l))] [] trivial (kC (sat_cell h12 1 rfl rfl) nC) ?_
  refine draw_law (i := 3) 13 (yV (((x13.toNat : Nat) : Int))) [] (by kernel_rfl) (fun _ _ => law_idxStr (o := opA (RA Tryz.f266 [1, 0, 0, 1, 1, 0, 0, 1, 0]) 3) (x := (Operand.tmp 11)) (i := (Operand.tmp 12)) (k := .i64) (s := l) (z := (i : Int)) (b := x13) (by kernel_rfl) Tryz.underlying9 (by kernel_rfl) (by kernel_rfl) i (by omega) hx14 _) (by intro q hq; cases hq) ?_
  have h16 := tk4 (sf3 (sf2 (sf2 (sf3 h12))))
  refine draw_act (i := 4) [] (by kernel_rfl) (by kernel_rfl) ?_
  refine yCl 14 Tryz.call267 (index_ht wo hg (((x13.toNat : Nat) : Int))) h16 ?_
  rintro v K w17 (⟨rfl, rfl⟩) h18
  refine ⟨_, rfl, ?_⟩
  have h19 := ap1 h18
  have hx20 := ix_bd (((x13.toNat : Nat) : Int))
  refine ⟨(AllC_nil _), ?_⟩
  refine yD _ [(4, iV ((ix (((x13.toNat : Nat) : Int))) + 1)), (15, iV ((ix (((x13.toNat : Nat) : Int))) + 1))] [e1 5 (iV ((ix (((x13.toNat : Nat) : Int))) + 1)), e0 6] [] [(iV (IntKind.wrap .i64 (((ix (((x13.toNat : Nat) : Int)))) + 1)), iV ((ix (((x13.toNat : Nat) : Int))) + 1))] ⟨(ov_i64 (by omega) (by omega) (by omega)), trivial⟩ nC ?_
  refine yK [(0, .func (Fn.yield k_) #[] #[]), (1, pV b), (4, iV ((ix (((x13.toNat : Nat) : Int))) + 1)), (6, iV (((l.length : Nat) : Int))), (7, iV (i : Int))] fun lr21 => ?_
  refine ySq ?_
  refine gi_ply (id := 4) (ops := RA Tryz.f266 [1, 0, 0, 1, 1, 0, 0, 1, 1, 0]) [0, 1, 2, 3, 4] [5, 6, 7] (by kernel_rfl) (by kernel_rfl) (by kernel_rfl) ?_
  refine yB0 [1, 2, 3, 4] [0] [(16, iV ((ix (((x13.toNat : Nat) : Int))) + 1))] ?_
  by_cases c22 : (ix (((x13.toNat : Nat) : Int))) + 1 = 0
  ·
   refine yBb [] [(20, undef), (19, undef), (18, .bool true), (17, .bool true)] [e1 1 (.bool true), e0 2, e0 3, e0 4] [] [(.bool (((ix (((x13.toNat : Nat) : Int))) + 1) == 0), .bool true)] ⟨(ov_et (by omega)), trivial⟩ nC (.mk ?_)
   refine yp_skip (by kernel_rfl) ?_
   refine plain_skip (by kernel_rfl : chkN (RA Tryz.f266 [1, 0, 0, 1, 1, 0, 0, 1, 1, 0]) 25 _ 5 = some (some 21)) rfl ?_
   refine yB0 [] [6, 7] [(23, .bool true), (22, undef)] (.mk ?_)
   refine yK [(0, .func (Fn.yield k_) #[] #[]), (1, pV b), (6, iV (((l.length : Nat) : Int))), (7, iV (i : Int)), (23, .bool true)] fun lr23 => ?_
   refine yCt ?_
   refine yRt ?_
   repeat (first | simp only [Exit.inBlock] | simp only [Exit.then])
   refine hi_out [] (.tuple #[]) [] (by kernel_rfl) (by intro q hq; cases hq) ⟨⟨_, rfl⟩, ?_⟩
   have h24 := tk4 (sf3 (sf3 (sf1 (sf3 h19))))
   have he_ : i = (gl l) := (gl_stop (by omega) hx14 (by unfold cd; omega))
   exact .inl (he_ ▸ h24)
  ·
   refine yBb [] [(20, iV ((ix (((x13.toNat : Nat) : Int))) + 1)), (19, .func (Fn.yield k_) #[] #[]), (18, .bool false), (17, .bool false)] [e1 1 (.bool false), e0 2, e0 3, e0 4] [] [(.bool (((ix (((x13.toNat : Nat) : Int))) + 1) == 0), .bool false)] ⟨(ov_ef (by omega)), trivial⟩ nC (.mk ?_)
   have h25 := tk4 (sf3 (sf3 (sf1 (sf3 h19))))
   change YP _ (RA Tryz.f266 [1, 0, 0, 1, 1, 0, 0, 1, 1, 0]) _ [5, 6, 7] (mk 25 (([(20, iV ((ix (((x13.toNat : Nat) : Int))) + 1)), (19, .func (Fn.yield k_) #[] #[]), (18, .bool false), (17, .bool false), (16, iV ((ix (((x13.toNat : Nat) : Int))) + 1)), (0, .func (Fn.yield k_) #[] #[]), (1, pV b), (4, iV ((ix (((x13.toNat : Nat) : Int))) + 1)), (6, iV (((l.length : Nat) : Int))), (7, iV (i : Int))] : Fr) ++ lr21)) _
   refine yp_yield (d := some 21) (k := k_) (args := [Value.int IntKind.i64 ((ix (((x13.toNat : Nat) : Int))) + 1)]) (xa := ((fun i => [Value.int IntKind.i64 (cd (l.getD i 0))])) i) (S1 := fun w => sat g w [J_ (i + 1), Cl b [Value.string (St l)] 9, Old wo, R]) (S2 := fun w => sat g w [E_ i, R]) (by kernel_rfl) (by kernel_rfl) (by kernel_rfl) ((by show [Value.int IntKind.i64 (cd (l.getD i 0))] = _; rw [getD_some hx14]; rfl)) (hY i ((gl_go (by omega) hx14 (by unfold cd; omega))) _ [R] h25) ?_ ?_
   ·
    intro w26 h27
    refine ⟨_, rfl, ?_⟩
    have h28 : sat g w26 [J_ (i + 1), Cl b [.string (St l)] 9, Old wo, R] := h27
    have hlt29 := ((gl_go (by omega) hx14 (by unfold cd; omega)) : i < (gl l))
    refine yB0 [] [6, 7] [(23, .bool false), (22, .bool false)] (.mk ?_)
    refine yK [(0, .func (Fn.yield k_) #[] #[]), (1, pV b), (6, iV (((l.length : Nat) : Int))), (7, iV (i : Int)), (23, .bool false)] fun lr30 => ?_
    refine yCf ?_
    refine ySk ?_
    refine yPl [0, 1] ?_
    refine yBb [] [(7, iV ((i : Int) + 1)), (24, iV ((i : Int) + 1))] [e1 0 (iV ((i : Int) + 1)), e0 1] [] [(iV (IntKind.wrap .i64 ((i : Int) + 1)), iV ((i : Int) + 1))] ⟨(ov_i64 (by omega) (by omega) (by omega)), trivial⟩ nC (.mk ?_)
    change ∃ n', n' < _ ∧ _
    refine ⟨(l.length - (i + 1)), by omega, (i + 1), _, rfl, (by omega), (mk_live [(0, .func (Fn.yield k_) #[] #[]), (1, pV b), (6, iV (((l.length : Nat) : Int))), (7, iV ((((i + 1) : Nat) : Int)))] ⟨rfl, rfl, rfl, (ov_int (by omega)), trivial⟩), h28⟩
   ·
    intro w31 h32
    refine ⟨_, rfl, ?_⟩
    have h33 : sat g w31 [E_ i, R] := h32
    have hlt34 := ((gl_go (by omega) hx14 (by unfold cd; omega)) : i < (gl l))
    refine yB0 [] [6, 7] [(23, .bool true), (22, .bool true)] (.mk ?_)
    refine yK [(0, .func (Fn.yield k_) #[] #[]), (1, pV b), (6, iV (((l.length : Nat) : Int))), (7, iV (i : Int)), (23, .bool true)] fun lr35 => ?_
    refine yCt ?_
    refine yRt ?_
    repeat (first | simp only [Exit.inBlock] | simp only [Exit.then])
    refine hi_out [] (.tuple #[]) [] (by kernel_rfl) (by intro q hq; cases hq) ⟨⟨_, rfl⟩, ?_⟩
    exact .inr ⟨i, (by omega), h33⟩
 ·
  refine yBb [] [(8, .bool false)] [e1 0 (.bool false)] [] [(.bool (decide ((i : Int) < ((l.length : Nat) : Int))), .bool false)] ⟨(ov_f (by omega)), trivial⟩ nC (.mk ?_)
  refine yK [(0, .func (Fn.yield k_) #[] #[]), (1, pV b), (6, iV (((l.length : Nat) : Int))), (7, iV (i : Int)), (8, .bool false)] fun lr36 => ?_
  refine ySq ?_
  refine yCf ?_
  refine yEx 0 ?_
  repeat (first | simp only [Exit.inBlock] | simp only [Exit.then])
  refine hi_outn [] (.tuple #[]) [] (by kernel_rfl) (by intro q hq; cases hq) ⟨⟨_, rfl⟩, ?_⟩
  have he_ : i = (gl l) := (by omega)
  exact .inl (he_ ▸ h7)

theorem parse_ht (wo : World) (hg : Lett wo) (l : List UInt8) (hl : l.length ≤ 1099511627776) : HT Tryz.prog 161 [Value.string (St l)] [Old wo] (fun v K => ∃ p c, v = Value.tuple #[Value.slice p (prs l).1.length c, Value.int .i64 (prs l).2] ∧ K = [Sl 3 1 p (prs l).1.length c (fl eI (prs l).1), Old wo]) := by
 have hgl := gl_le l
 refine hi_in 22 ([(0, .string (St l))] : Fr) Tryz.func161 (by kernel_rfl) Tryz.ntmps161 rfl rfl ?_
 intro g w0 R h0
 refine ySq ?_
 refine yPl [0, 1] ?_
 refine yB0 [] [0, 1] [(3, iV 0), (2, .slice none 0 0)] (.mk ?_)
 refine yK [(0, .string (St l)), (2, .slice none 0 0), (3, iV 0)] fun lr1 => ?_
 refine ySq ?_
 refine ySq ?_
 refine yPl [0, 1, 2] ?_
 refine yBb [2] [(7, iV (((l.length : Nat) : Int))), (6, .string (St l))] [e0 0, e1 1 (iV (((l.length : Nat) : Int)))] [] [(iV ((St l).size : Int), iV (((l.length : Nat) : Int)))] ⟨(ov_int (st_len _)), trivial⟩ nC ?_
 by_cases c2 : ((l.length : Nat) : Int) > 2000
 ·
  refine yBb [] [(8, .bool true)] [e1 2 (.bool true)] [] [(.bool (decide (((l.length : Nat) : Int) > 2000)), .bool true)] ⟨(ov_t (by omega)), trivial⟩ nC (.mk ?_)
  refine yK [(0, .string (St l)), (2, .slice none 0 0), (3, iV 0), (8, .bool true)] fun lr3 => ?_
  refine yCt ?_
  refine ySq ?_
  refine yPl [0, 1] ?_
  refine yB0 [] [0, 1] [(3, iV 11), (2, .slice none 0 0)] (.mk ?_)
  refine yK [(2, .slice none 0 0), (3, iV 11)] fun lr4 => ?_
  refine yRt ?_
  repeat (first | simp only [Exit.inBlock] | simp only [Exit.then])
  have h5 : sat g w0 [Sl 3 1 none 0 0 (fl eI []), Old wo, R] := sl_nil 3 1 h0
  refine hi_out [] (.tuple #[.slice none 0 0, iV 11]) [] (by kernel_rfl) (by intro q hq; cases hq) ?_
  exact ⟨.tuple #[.slice none 0 0, iV 11], [Sl 3 1 none 0 0 (fl eI []), Old wo], rfl, ⟨none, 0, (by rw [(prs_many (by omega))]; rfl), (by rw [(prs_many (by omega))]; rfl)⟩, h5⟩
 ·
  refine yBb [] [(8, .bool false)] [e1 2 (.bool false)] [] [(.bool (decide (((l.length : Nat) : Int) > 2000)), .bool false)] ⟨(ov_f (by omega)), trivial⟩ nC (.mk ?_)
  refine yK [(0, .string (St l)), (2, .slice none 0 0), (3, iV 0), (8, .bool false)] fun lr6 => ?_
  refine yCf ?_
  refine ySk ?_
  refine ySq ?_
  refine yPl [0] ?_
  refine yA ?_
  refine yNp 4 37 [.slice none 0 0] h0 fun r7 w8 h9 => ?_
  refine PO.mk ?_
  refine yK [(0, .string (St l)), (2, .slice none 0 0), (3, iV 0), (4, pV r7), (8, .bool false)] fun lr10 => ?_
  refine ySq ?_
  refine ySq ?_
  refine yPl [0, 1] ?_
  refine yB0 [1] [0] [(9, .string (St l))] ?_
  refine yA ?_
  refine yCl 10 Tryz.call217 (read_ht l) h9 ?_
  rintro v K w12 (⟨b11, rfl, rfl⟩) h13
  refine ⟨_, rfl, ?_⟩
  have h14 := ap1 h13
  refine PO.mk ?_
  refine yK [(0, .string (St l)), (2, .slice none 0 0), (3, iV 0), (4, pV r7), (8, .bool false), (10, .func (Fn.func 266) #[] #[pV b11])] fun lr15 => ?_
  refine yBk 0 ?_
  have h16 : sat g w12 [Sl 3 1 none 0 0 (fl eI []), Cl b11 [.string (St l)] 9, Cl r7 [.slice none 0 0] 37, Old wo, R] := sl_nil 3 1 h14
  have h17 := tk5 (sf4 (sf3 (sf3 (sf4 (sf4 h16)))))
  refine gi_rf (x := (Operand.tmp 10)) (ps := #[11]) (asg := CA Tryz.f161 [1, 1, 1, 0, 1, 0, 1]) (bd := CA Tryz.f161 [1, 1, 1, 0, 1, 0, 0]) (gf := 266) (cap := [pV b11]) (N := (gl l)) (xs := fun i => [iV ((cd (l.getD i 0)))]) (At := [Cl b11 [.string (St l)] 9, Old wo]) (K0 := [Cl r7 [.slice none 0 0] 37, Sl 3 1 none 0 0 (fl eI [])]) (L := [R]) (fun i => [(11, iV ((cd (l.getD i 0))))] ++ (([(0, .string (St l)), (2, .slice none 0 0), (3, iV 0), (4, pV r7), (8, .bool false), (10, .func (Fn.func 266) #[] #[pV b11])] : Fr) ++ lr15)) (fun i => ([(5, iV ((cd (l.getD i 0)))), (11, iV ((cd (l.getD i 0))))] : Fr) ++ (([(0, .string (St l)), (2, .slice none 0 0), (3, iV 0), (4, pV r7), (8, .bool false), (10, .func (Fn.func 266) #[] #[pV b11])] : Fr) ++ lr15)) (fun i K => ∃ p : Option Addr, ∃ c : Nat, K = [Cl r7 [.slice p i c] 37, Sl 3 1 p i c (fl eI ((l.take i).map cd))]) (fun c i K => False) (by kernel_rfl) (by kernel_rfl) Tryz.call266 (read_it wo hg b11 l (by omega)) ⟨none, 0, rfl⟩ h17 (fun _ _ => rfl) (fun _ _ => rf_frame1 rfl) ?_ ?_ ?_ ?_
  ·
   intro i hi_ lp_ w18 K_ hk19
   change WP _ _ (CA Tryz.f161 [1, 1, 1, 0, 1, 0, 1]) _ (mk 22 (([(11, iV ((cd (l.getD i 0)))), (0, .string (St l)), (2, .slice none 0 0), (3, iV 0), (4, pV r7), (8, .bool false), (10, .func (Fn.func 266) #[] #[pV b11])] : Fr) ++ lr15)) _
   refine yPl [0] ?_
   refine yB0 [] [0] [(5, iV ((cd (l.getD i 0))))] (.mk ?_)
   exact hk19
  ·
   rintro i hi22 lp_ w20 K_ G ⟨p, c, rfl⟩ h21
   have h23 : sat g w20 [Cl r7 [.slice p i c] 37, Sl 3 1 p i c (fl eI ((l.take i).map cd)), Cl b11 [.string (St l)] 9, Old wo, G] := h21
   change WP _ _ (CA Tryz.f161 [1, 1, 1, 0, 1, 0, 0]) _ (mk 22 (([(5, iV ((cd (l.getD i 0)))), (11, iV ((cd (l.getD i 0)))), (0, .string (St l)), (2, .slice none 0 0), (3, iV 0), (4, pV r7), (8, .bool false), (10, .func (Fn.func 266) #[] #[pV b11])] : Fr) ++ lr15)) _
   obtain ⟨_, _⟩ := sl_le (sat_sel [1] rfl h23)
   refine yBk 1 ?_
   refine yPl [0, 1, 2, 3, 4] ?_
   refine yBb [2, 3, 4] [(13, iV ((cd (l.getD i 0)))), (12, .slice p i c)] [e2 0 [.slice p i c], e0 1] [(0, ⟨r7, 0, none⟩, .slice p i c)] [] trivial (kC (sat_cell h23 0 rfl rfl) nC) ?_
   refine yA ?_
   refine an_new (d := 14) (fun xb_ => .slice (some ⟨xb_, 0, none⟩) 1 1) (fun xb_ => Obj.cells [iV ((cd (l.getD i 0)))].toArray 3 (0, 0)) (fun xb_ => by kernel_rfl) (by kernel_rfl) rfl h23 ?_
   intro r24 w25 (h26 : sat g w25 [Cl r24 [iV ((cd (l.getD i 0)))] 3, Cl r7 [.slice p i c] 37, Sl 3 1 p i c (fl eI ((l.take i).map cd)), Cl b11 [.string (St l)] 9, Old wo, G])
   have h27 := tk6 (sf5 (sf4 (sf4 (sf5 (sf5 (sf5 h26))))))
   refine yA ?_
   refine an_append (d := 15) (sz := 1) (s := (Operand.tmp 12)) (x := (Operand.tmp 14)) (z := iV 0) (p := p) (m := i) (c := c) (k := 1) (c2 := 1) (a := ⟨r24, 0, none⟩) (by_ := 8) (by kernel_rfl) (by kernel_rfl) rfl Tryz.underlying37 (by kernel_rfl) rfl (by decide) (by kernel_rfl) (by kernel_rfl) h27 (fl eI [(cd (l.getD i 0))]) rfl (fun j u hj => by rw [add_off]; exact sat_cell h27 1 rfl (by rw [Nat.zero_add]; exact hj)) (fl_one eI_ok _) (by omega) (by omega) (i + 1) (by omega) ?_
   intro p28 cap29 w30 h31
   have h32 : sat g w30 [Sl 3 1 p28 (i + 1) cap29 (fl eI (((l.take i).map cd) ++ [(cd (l.getD i 0))])), Cl r24 [iV ((cd (l.getD i 0)))] 3, Cl r7 [.slice p i c] 37, Cl b11 [.string (St l)] 9, Old wo, G] := sat_imp h31 (fun _ hh => by rw [fl_app]; exact hh)
   obtain ⟨hn33, hn34⟩ := sl_le h32
   have h35 := tk6 (sf5 (sf4 (sf4 (sf5 (sf5 (sf5 h32))))))
   refine yA ?_
   refine yS [(0, .slice p28 (i + 1) cap29)] [.slice p28 (i + 1) cap29] h35 fun w36 h37 => ?_
   refine PO.mk ?_
   repeat (first | simp only [Exit.inBlock] | simp only [Exit.then])
   obtain ⟨x38, hx39⟩ : ∃ x, l[i]? = some x := ⟨_, List.getElem?_eq_getElem (by omega)⟩
   have h40 := tk6 (sf5 (sf4 (sf5 (sf5 (sf5 (sf5 h37))))))
   have h41 : sat g w36 [Sl 3 1 p28 (i + 1) cap29 (fl eI ((l.take (i + 1)).map cd)), Cl r7 [.slice p28 (i + 1) cap29] 37, Cl r24 [iV ((cd (l.getD i 0)))] 3, Cl b11 [.string (St l)] 9, Old wo, G] := (show (((l.take i).map cd) ++ [(cd (l.getD i 0))]) = ((l.take (i + 1)).map cd) from (tk_eq hx39 (congrArg cd (getD_some hx39).symm))) ▸ h40
   have h42 := tk6 (sf5 (sf4 (sf5 (sf5 (sf5 (sf2 h41))))))
   have h43 := tk5 h42
   exact ⟨_, ⟨p28, cap29, rfl⟩, h43⟩
  ·
   rintro D44 w45 K_ ⟨p, c, rfl⟩ h46
   have h47 : sat g w45 [pt D44 (Obj.deferred (some [])), Cl r7 [.slice p ((gl l)) c] 37, Sl 3 1 p ((gl l)) c (fl eI ((l.take (gl l)).map cd)), Cl b11 [.string (St l)] 9, Old wo, R] := h46
   refine yK [(0, .string (St l)), (4, pV r7)] fun lr48 => ?_
   refine ySq ?_
   refine ySq ?_
   refine yPl [0, 1, 2, 3, 4] ?_
   refine yBb [4] [(19, iV (((l.length : Nat) : Int))), (18, .string (St l)), (17, iV (((gl l : Nat) : Int))), (16, .slice p ((gl l)) c)] [e2 0 [.slice p ((gl l)) c], e0 1, e0 2, e1 3 (iV (((l.length : Nat) : Int)))] [(0, ⟨r7, 0, none⟩, .slice p ((gl l)) c)] [(iV ((St l).size : Int), iV (((l.length : Nat) : Int)))] ⟨(ov_int (st_len _)), trivial⟩ (kC (sat_cell h47 1 rfl rfl) nC) ?_
   by_cases c49 : ((gl l : Nat) : Int) < ((l.length : Nat) : Int)
   ·
    refine yBb [] [(20, .bool true)] [e1 4 (.bool true)] [] [(.bool (decide (((gl l : Nat) : Int) < ((l.length : Nat) : Int))), .bool true)] ⟨(ov_t (by omega)), trivial⟩ nC (.mk ?_)
    refine yK [(4, pV r7), (20, .bool true)] fun lr50 => ?_
    refine yCt ?_
    refine ySq ?_
    refine yPl [0, 1] ?_
    refine yB0 [] [0, 1] [(3, iV 9), (2, .slice none 0 0)] (.mk ?_)
    refine yK [(2, .slice none 0 0), (3, iV 9)] fun lr51 => ?_
    refine yRt ?_
    repeat (first | simp only [Exit.inBlock] | simp only [Exit.then])
    have h52 : sat g w45 [Sl 3 1 none 0 0 (fl eI []), pt D44 (Obj.deferred (some [])), Cl r7 [.slice p ((gl l)) c] 37, Sl 3 1 p ((gl l)) c (fl eI ((l.take (gl l)).map cd)), Cl b11 [.string (St l)] 9, Old wo, R] := sl_nil 3 1 h47
    have h53 := tk7 (sf6 (sf5 (sf6 (sf6 (sf6 (sf6 (sf6 h52)))))))
    refine hi_out1 h53 [] (.tuple #[.slice none 0 0, iV 9]) [] (by kernel_rfl) (fun w55 h54 => ⟨?_, ?_⟩)
    · exact (by intro q hq; cases hq)
    ·
     have h56 : sat g w55 [pt D44 (Obj.deferred none), Sl 3 1 none 0 0 (fl eI []), Cl r7 [.slice p ((gl l)) c] 37, Sl 3 1 p ((gl l)) c (fl eI ((l.take (gl l)).map cd)), Cl b11 [.string (St l)] 9, Old wo, R] := h54
     have h57 := tk7 (sf6 (sf6 (sf4 (sf5 (sf5 (sf5 (sf6 h56)))))))
     have h58 := tk3 (sf2 (sf2 (sf6 h57)))
     exact ⟨.tuple #[.slice none 0 0, iV 9], [Sl 3 1 none 0 0 (fl eI []), Old wo], rfl, ⟨none, 0, (by rw [(prs_form (by omega) (by omega))]; rfl), (by rw [(prs_form (by omega) (by omega))]; rfl)⟩, h58⟩
   ·
    refine yBb [] [(20, .bool false)] [e1 4 (.bool false)] [] [(.bool (decide (((gl l : Nat) : Int) < ((l.length : Nat) : Int))), .bool false)] ⟨(ov_f (by omega)), trivial⟩ nC (.mk ?_)
    refine yK [(4, pV r7), (20, .bool false)] fun lr59 => ?_
    refine yCf ?_
    refine ySk ?_
    refine ySq ?_
    refine yPl [0, 1, 2] ?_
    refine yBb [] [(3, iV 0), (2, .slice p ((gl l)) c), (21, .slice p ((gl l)) c)] [e2 0 [.slice p ((gl l)) c], e0 1, e0 2] [(0, ⟨r7, 0, none⟩, .slice p ((gl l)) c)] [] trivial (kC (sat_cell h47 1 rfl rfl) nC) (.mk ?_)
    refine yK [(2, .slice p ((gl l)) c), (3, iV 0)] fun lr60 => ?_
    refine yRt ?_
    repeat (first | simp only [Exit.inBlock] | simp only [Exit.then])
    have h61 := tk6 (sf5 (sf4 (sf4 (sf5 (sf5 (sf5 h47))))))
    have h62 : sat g w45 [Sl 3 1 p l.length c (fl eI ((l.take (gl l)).map cd)), pt D44 (Obj.deferred (some [])), Cl r7 [.slice p ((gl l)) c] 37, Cl b11 [.string (St l)] 9, Old wo, R] := (show (gl l) = l.length from (by omega)) ▸ h61
    have h63 : sat g w45 [Sl 3 1 p l.length c (fl eI (l.map cd)), pt D44 (Obj.deferred (some [])), Cl r7 [.slice p ((gl l)) c] 37, Cl b11 [.string (St l)] 9, Old wo, R] := (show ((l.take (gl l)).map cd) = (l.map cd) from (tk_all (by omega))) ▸ h62
    have h64 : sat g w45 [Sl 3 1 p (((l.map cd).length)) c (fl eI (l.map cd)), pt D44 (Obj.deferred (some [])), Cl r7 [.slice p ((gl l)) c] 37, Cl b11 [.string (St l)] 9, Old wo, R] := (show l.length = (l.map cd).length from (List.length_map _).symm) ▸ h63
    have h65 := tk6 (sf5 (sf4 (sf5 (sf5 (sf5 (sf5 h64))))))
    refine hi_out1 h65 [] (.tuple #[.slice p ((gl l)) c, iV 0]) [] (by kernel_rfl) (fun w67 h66 => ⟨?_, ?_⟩)
    · exact (by intro q hq; cases hq)
    ·
     have h68 : sat g w67 [pt D44 (Obj.deferred none), Sl 3 1 p (((l.map cd).length)) c (fl eI (l.map cd)), Cl r7 [.slice p ((gl l)) c] 37, Cl b11 [.string (St l)] 9, Old wo, R] := h66
     have h69 := tk6 (sf5 (sf5 (sf3 (sf4 (sf4 (sf5 h68))))))
     have h70 := tk3 (sf2 (sf2 (sf5 h69)))
     exact ⟨.tuple #[.slice p ((gl l)) c, iV 0], [Sl 3 1 p (((l.map cd).length)) c (fl eI (l.map cd)), Old wo], rfl, ⟨p, c, (by rw [(prs_ok (by omega) (by omega)), show (gl l) = l.length from by omega, ← List.length_map cd] <;> rfl), (by rw [(prs_ok (by omega) (by omega))])⟩, h70⟩
  ·
   intro _ _ _ _ _ _ hf_; exact hf_.elim

end Go.Proofs.YtehlamblpekmkaaGreatDoor

/- Walks, printed by my generator ../out/a2.py. -/
namespace Go.Proofs.YtehlamblpekmkaaGreatDoor
set_option maxHeartbeats 4000000
theorem valid_ht (b : Nat) (v0 : Value) : HT Tryz.prog 160 [Value.pointer (some ⟨b, 0, none⟩)] [Cl b [Value.bool true, v0] 239] (fun v K => v = Value.bool true ∧ K = [Cl b [Value.bool true, v0] 239]) := by
 refine hi_in 11 ([(0, pV b)] : Fr) Tryz.func160 (by kernel_rfl) Tryz.ntmps160 rfl rfl ?_
 intro g w0 R h0
 refine ySq ?_
 refine yPl [0] ?_
 refine yB0 [] [0] [(2, .bool false)] (.mk ?_)
 refine yK [(0, pV b)] fun lr1 => ?_
 refine ySq ?_
 refine yPl [0, 1, 2, 3, 4, 5, 6, 7, 8] ?_
 refine yBb [] [(2, .bool true), (10, .bool true), (9, .bool true), (8, pV b), (7, pV b), (6, pV b), (5, .bool true), (4, .bool true), (3, pV b)] [e0 0, e0 1, e0 2, e0 3, e0 4, e0 5, e2 6 [.bool true], e0 7, e0 8] [(6, ⟨b, 0, none⟩, .bool true)] [] trivial (kC (sat_cell h0 0 rfl rfl) nC) (.mk ?_)
 refine yK [(2, .bool true)] fun lr2 => ?_
 refine yRt ?_
 repeat (first | simp only [Exit.inBlock] | simp only [Exit.then])
 refine hi_out [] (.bool true) [] (by kernel_rfl) (by intro q hq; cases hq) ?_
 exact ⟨.bool true, [Cl b [.bool true, v0] 239], rfl, ⟨rfl, rfl⟩, h0⟩

theorem grow_ht (k : Nat) (z : Int) (hz : z = (k : Int)) (hk : k ≤ 1099511627776) : HT Tryz.prog 218 [Value.slice none 0 0, Value.int IntKind.i64 z] [] (fun v K => ∃ p c, v = Value.slice p 0 c ∧ K = [Sl 3 1 p 0 c (fl eI [])]) := by
 refine hi_in 27 ([(0, .slice none 0 0), (1, iV z)] : Fr) Tryz.func218 (by kernel_rfl) Tryz.ntmps218 rfl rfl ?_
 intro g w0 R h0
 refine ySq ?_
 refine yPl [0] ?_
 refine yB0 [] [0] [(4, .slice none 0 0)] (.mk ?_)
 refine yK [(0, .slice none 0 0), (1, iV z)] fun lr1 => ?_
 refine ySq ?_
 refine ySq ?_
 refine yPl [0, 1] ?_
 refine yBb [] [(6, .bool false), (5, iV z)] [e0 0, e1 1 (.bool false)] [] [(.bool (decide (z < 0)), .bool false)] ⟨(ov_f (by omega)), trivial⟩ nC (.mk ?_)
 refine yK [(0, .slice none 0 0), (1, iV z), (6, .bool false)] fun lr2 => ?_
 refine yCf ?_
 refine ySk ?_
 refine ySq ?_
 refine ySq ?_
 refine yPl [0, 1, 2, 3, 4, 5, 6, 7] ?_
 refine yBb [] [(1, iV z), (14, iV z), (13, iV 0), (12, iV 0), (11, .slice none 0 0), (10, iV 0), (9, .slice none 0 0), (8, iV z)] [e0 0, e0 1, e0 2, e0 3, e0 4, e0 5, e1 6 (iV z), e0 7] [] [(iV (IntKind.wrap .i64 (z - 0)), iV z)] ⟨(ov_i64 (by omega) (by omega) (by omega)), trivial⟩ nC (.mk ?_)
 refine yK [(0, .slice none 0 0), (1, iV z)] fun lr3 => ?_
 refine ySq ?_
 refine yPl [0, 1] ?_
 refine yB0 [1] [0] [(15, iV z)] ?_
 by_cases c4 : z > 0
 ·
  refine yBb [] [(16, .bool true)] [e1 1 (.bool true)] [] [(.bool (decide (z > 0)), .bool true)] ⟨(ov_t (by omega)), trivial⟩ nC (.mk ?_)
  refine yK [(0, .slice none 0 0), (1, iV z), (16, .bool true)] fun lr5 => ?_
  refine yCt ?_
  refine yPl [0, 1, 2, 3, 4, 5, 6, 7, 8, 9] ?_
  refine yB0 [3, 4, 5, 6, 7, 8, 9] [0, 1, 2] [(19, iV 0), (18, .slice none 0 0), (17, .slice none 0 0)] ?_
  refine plain_law (i := 3) 20 (.slice none 0 0) (by kernel_rfl) (law_sliceTo (o := opA (RA Tryz.f218 [1, 1, 0, 1, 1, 0]) 3) (x := (Operand.tmp 17)) (y := (Operand.tmp 19)) (p := none) (m := 0) (c := 0) (z := 0) (by kernel_rfl) Tryz.underlying37 (by kernel_rfl) (by kernel_rfl) (by kernel_rfl) 0 (by omega) (by omega) _) ?_
  refine yB0 [5, 6, 7, 8, 9] [4] [(21, iV z)] ?_
  refine yA ?_
  refine an_append_room (kx := .i64) (d := 22) (sz := 1) (by_ := 8) (s := (Operand.tmp 20)) (x := (Operand.tmp 21)) (z := iV 0) (zi := z) (by kernel_rfl) (by kernel_rfl) rfl Tryz.underlying37 Tryz.underlying3 (by kernel_rfl) rfl (by decide) k (by omega) (by omega) (by kernel_rfl) (by kernel_rfl) h0 (by omega) (by omega) ?_
  intro r6 cap7 w8 hn10 hn11 h9
  obtain ⟨p12, hp13⟩ : ∃ p : Option Addr, p = some ⟨r6, 0, none⟩ := ⟨_, rfl⟩
  have h14 : sat g w8 [Sl 3 1 p12 0 cap7 (fl eI []), R] := by rw [hp13]; exact h9
  rw [← hp13]
  refine yB0 [8, 9] [6, 7] [(24, iV 0), (23, .slice none 0 0)] ?_
  refine plain_law (i := 8) 25 (.slice p12 0 cap7) (by kernel_rfl) (law_sliceTo (o := opA (RA Tryz.f218 [1, 1, 0, 1, 1, 0]) 8) (x := (Operand.tmp 22)) (y := (Operand.tmp 24)) (p := p12) (m := k) (c := cap7) (z := 0) (by kernel_rfl) Tryz.underlying37 (by kernel_rfl) (by kernel_rfl) (by kernel_rfl) 0 (by omega) (by omega) _) ?_
  refine yB0 [] [9] [(0, .slice p12 0 cap7)] (.mk ?_)
  refine yK [(0, .slice p12 0 cap7)] fun lr15 => ?_
  refine ySq ?_
  refine yPl [0, 1] ?_
  refine yB0 [] [0, 1] [(4, .slice p12 0 cap7), (26, .slice p12 0 cap7)] (.mk ?_)
  refine yK [(4, .slice p12 0 cap7)] fun lr16 => ?_
  refine yRt ?_
  repeat (first | simp only [Exit.inBlock] | simp only [Exit.then])
  refine hi_out [] (.slice p12 0 cap7) [] (by kernel_rfl) (by intro q hq; cases hq) ?_
  exact ⟨.slice p12 0 cap7, [Sl 3 1 p12 0 cap7 (fl eI [])], rfl, ⟨p12, cap7, rfl, rfl⟩, h14⟩
 ·
  refine yBb [] [(16, .bool false)] [e1 1 (.bool false)] [] [(.bool (decide (z > 0)), .bool false)] ⟨(ov_f (by omega)), trivial⟩ nC (.mk ?_)
  refine yK [(0, .slice none 0 0), (1, iV z), (16, .bool false)] fun lr17 => ?_
  refine yCf ?_
  refine ySk ?_
  refine ySq ?_
  refine yPl [0, 1] ?_
  refine yB0 [] [0, 1] [(4, .slice none 0 0), (26, .slice none 0 0)] (.mk ?_)
  refine yK [(4, .slice none 0 0)] fun lr18 => ?_
  refine yRt ?_
  repeat (first | simp only [Exit.inBlock] | simp only [Exit.then])
  have h19 : sat g w0 [Sl 3 1 none 0 0 (fl eI []), R] := sl_nil 3 1 h0
  refine hi_out [] (.slice none 0 0) [] (by kernel_rfl) (by intro q hq; cases hq) ?_
  exact ⟨.slice none 0 0, [Sl 3 1 none 0 0 (fl eI [])], rfl, ⟨none, 0, rfl, rfl⟩, h19⟩

theorem clone_nil (c : Nat) (X : Assn) : HT Tryz.prog 126 [Value.slice none 0 c] [X] (fun v K => ∃ p c, v = Value.slice p 0 c ∧ K = [Sl 3 1 p 0 c (fl eI []), X]) := by
 refine hi_in 8 ([(0, .slice none 0 c)] : Fr) Tryz.func126 (by kernel_rfl) Tryz.ntmps126 rfl rfl ?_
 intro g w0 R h0
 refine ySq ?_
 refine yPl [0] ?_
 refine yB0 [] [0] [(2, .slice none 0 0)] (.mk ?_)
 refine yK [(0, .slice none 0 c)] fun lr1 => ?_
 refine ySq ?_
 refine ySq ?_
 refine yPl [0, 1] ?_
 refine yB0 [] [0, 1] [(4, .bool true), (3, .slice none 0 c)] (.mk ?_)
 refine yK [(0, .slice none 0 c), (4, .bool true)] fun lr2 => ?_
 refine yCt ?_
 refine ySq ?_
 refine yPl [0] ?_
 refine yB0 [] [0] [(2, .slice none 0 0)] (.mk ?_)
 refine yK [(2, .slice none 0 0)] fun lr3 => ?_
 refine yRt ?_
 repeat (first | simp only [Exit.inBlock] | simp only [Exit.then])
 have h4 : sat g w0 [Sl 3 1 none 0 0 (fl eI []), X, R] := sl_nil 3 1 h0
 refine hi_out [] (.slice none 0 0) [] (by kernel_rfl) (by intro q hq; cases hq) ?_
 exact ⟨.slice none 0 0, [Sl 3 1 none 0 0 (fl eI []), X], rfl, ⟨none, 0, rfl, rfl⟩, h4⟩

theorem clone_none (n c : Nat) (L : List Int) (X : Assn) (hX : Gv X none n (fl eI L)) (hL : L.length = n) : HT Tryz.prog 126 [Value.slice none n c] [X] (fun v K => ∃ p c, v = Value.slice p n c ∧ K = [Sl 3 1 p n c (fl eI L), X]) := by
  have hn0 : n = 0 ∨ 0 < n := by omega
  rcases hn0 with hn0 | hn0
  · have hl0 : L = [] := List.eq_nil_of_length_eq_zero (by omega)
    subst hl0
    subst hn0
    exact clone_nil c X
  · intro g w F hs
    obtain ⟨b, off, h1⟩ := gv_ptr (j := 0) hs rfl hX hn0
    cases h1

theorem clone_some (a : Addr) (p : Option Addr) (hp : p = some a) (n c : Nat) (L : List Int) (X : Assn) (hX : Gv X p n (fl eI L)) (hL : L.length = n) (hn : n ≤ 1099511627776) : HT Tryz.prog 126 [Value.slice p n c] [X] (fun v K => ∃ p c, v = Value.slice p n c ∧ K = [Sl 3 1 p n c (fl eI L), X]) := by
 refine hi_in 8 ([(0, .slice p n c)] : Fr) Tryz.func126 (by kernel_rfl) Tryz.ntmps126 rfl rfl ?_
 intro g w0 R h0
 refine ySq ?_
 refine yPl [0] ?_
 refine yB0 [] [0] [(2, .slice none 0 0)] (.mk ?_)
 refine yK [(0, .slice p n c)] fun lr1 => ?_
 refine ySq ?_
 refine ySq ?_
 refine yPl [0, 1] ?_
 refine yB0 [1] [0] [(3, .slice p n c)] ?_
 refine plain_law (i := 1) 4 (.bool false) (by kernel_rfl) (law_sliceSome (o := opA (RA Tryz.f126 [1, 0, 0]) 1) (x := (Operand.tmp 3)) (y := (Operand.const (.slice none 0 0))) (m := n) (c := c) (by kernel_rfl) Tryz.underlying37 (by kernel_rfl) hp (by kernel_rfl) _) (.mk ?_)
 refine yK [(0, .slice p n c), (4, .bool false)] fun lr2 => ?_
 refine yCf ?_
 refine ySk ?_
 refine ySq ?_
 refine yPl [0, 1, 2, 3] ?_
 refine yA ?_
 refine an_new (d := 5) (fun xb_ => .slice (some ⟨xb_, 0, none⟩) 0 0) (fun xb_ => Obj.cells [].toArray 3 (0, 0)) (fun xb_ => by kernel_rfl) (by kernel_rfl) rfl h0 ?_
 intro r3 w4 (h5 : sat g w4 [Cl r3 [] 3, X, R])
 refine yB0 [2, 3] [1] [(6, .slice p n c)] ?_
 have h6 : sat g w4 [Sl 3 1 (some ⟨r3, 0, none⟩) 0 0 (fl eI []), X, R] := sl_of_cl h5 rfl (by omega)
 refine yA ?_
 refine an_append_gv (d := 7) (sz := 1) (s := (Operand.tmp 5)) (x := (Operand.tmp 6)) (z := iV 0) (p := (some ⟨r3, 0, none⟩)) (p2 := p) (m := 0) (c := 0) (k := n) (c2 := c) (by_ := 8) (by kernel_rfl) (by kernel_rfl) rfl Tryz.underlying37 (by kernel_rfl) rfl (by decide) (by kernel_rfl) (by kernel_rfl) h6 1 rfl (fl eI L) hX (by rw [fl_len eI_ok, hL]) (fl_one eI_ok _) (by omega) (by omega) n (by omega) ?_
 intro p7 cap8 w9 h10
 have h11 : sat g w9 [Sl 3 1 p7 n cap8 (fl eI L), X, R] := sat_imp h10 (fun _ hh => by exact hh)
 obtain ⟨hn12, hn13⟩ := sl_le h11
 refine yB0 [] [3] [(2, .slice p7 n cap8)] (.mk ?_)
 refine yK [(2, .slice p7 n cap8)] fun lr14 => ?_
 refine yRt ?_
 repeat (first | simp only [Exit.inBlock] | simp only [Exit.then])
 refine hi_out [] (.slice p7 n cap8) [] (by kernel_rfl) (by intro q hq; cases hq) ?_
 exact ⟨.slice p7 n cap8, [Sl 3 1 p7 n cap8 (fl eI L), X], rfl, ⟨p7, cap8, rfl, rfl⟩, h11⟩

theorem clone_ht (p : Option Addr) (n c : Nat) (L : List Int) (X : Assn) (hX : Gv X p n (fl eI L)) (hL : L.length = n) (hn : n ≤ 1099511627776) : HT Tryz.prog 126 [Value.slice p n c] [X] (fun v K => ∃ p c, v = Value.slice p n c ∧ K = [Sl 3 1 p n c (fl eI L), X]) := by
  cases p with
  | none => exact clone_none n c L X hX hL
  | some a => exact clone_some a _ rfl n c L X hX hL hn

theorem concat_ht (r : Nat) (p q : Option Addr) (n m c d : Nat) (L M : List Int) (X Y : Assn) (hX : Gv X p n (fl eI L)) (hY : Gv Y q m (fl eI M)) (hlL : L.length = n) (hlM : M.length = m) (hb : n + m ≤ 1099511627776) : HT Tryz.prog 162 [Value.slice (some ⟨r, 0, none⟩) 2 2] [Cl r [Value.slice p n c, Value.slice q m d] 37, X, Y] (fun v K => ∃ p2 c2, v = Value.slice p2 (n + m) c2 ∧ K = [Sl 3 1 p2 (n + m) c2 (fl eI (L ++ M)), Cl r [Value.slice p n c, Value.slice q m d] 37, X, Y]) := by
 refine hi_in 36 ([(0, .slice (some ⟨r, 0, none⟩) 2 2)] : Fr) Tryz.func162 (by kernel_rfl) Tryz.ntmps162 rfl rfl ?_
 intro g w0 R h0
 refine ySq ?_
 refine yPl [0] ?_
 refine yB0 [] [0] [(2, .slice none 0 0)] (.mk ?_)
 refine yK [(0, .slice (some ⟨r, 0, none⟩) 2 2)] fun lr1 => ?_
 refine ySq ?_
 refine yPl [0] ?_
 refine yB0 [] [0] [(3, iV 0)] (.mk ?_)
 refine yK [(0, .slice (some ⟨r, 0, none⟩) 2 2), (3, iV 0)] fun lr2 => ?_
 refine ySq ?_
 refine ySq ?_
 refine yPl [0, 1, 2] ?_
 refine yBb [] [(11, iV 0), (10, iV 2), (9, .slice (some ⟨r, 0, none⟩) 2 2)] [e0 0, e1 1 (iV 2), e0 2] [] [(iV (2 : Int), iV 2)] ⟨(ov_int (by omega)), trivial⟩ nC (.mk ?_)
 refine yK [(0, .slice (some ⟨r, 0, none⟩) 2 2), (3, iV 0), (9, .slice (some ⟨r, 0, none⟩) 2 2), (10, iV 2), (11, iV 0)] fun lr3 => ?_
 refine yBk 0 ?_
 refine gi_unr (x := CA Tryz.f162 [1, 1, 0, 1, 0, 0]) 3 (by kernel_rfl) ?_
 refine ySq ?_
 refine yPl [0] ?_
 refine yB0 [] [0] [(12, .bool true)] (.mk ?_)
 refine yK [(0, .slice (some ⟨r, 0, none⟩) 2 2), (3, iV 0), (9, .slice (some ⟨r, 0, none⟩) 2 2), (10, iV 2), (11, iV 0), (12, .bool true)] fun lr4 => ?_
 refine ySq ?_
 refine yCt ?_
 refine ySk ?_
 refine ySq ?_
 refine yBk 1 ?_
 refine ySq ?_
 refine yPl [0, 1, 2] ?_
 refine plain_law (i := 0) 13 (pV r) (by kernel_rfl) (law_indexSl (o := opA (RA Tryz.f162 [1, 1, 0, 1, 0, 0, 1, 1, 0, 0, 0]) 0) (x := (Operand.tmp 9)) (i := (Operand.tmp 11)) (b := r) (off := 0) (z := 0) (len := 2) (cap := 2) (by kernel_rfl) Tryz.underlying312 1 (by kernel_rfl) 0 (by kernel_rfl) (by kernel_rfl) (by omega) (by omega) 0 (by omega) _) ?_
 refine yBb [] [(5, .slice p n c), (14, .slice p n c)] [e2 1 [.slice p n c], e0 2] [(1, ⟨r, 0, none⟩, .slice p n c)] [] trivial (kC (sat_cell h0 0 rfl rfl) nC) (.mk ?_)
 refine yK [(0, .slice (some ⟨r, 0, none⟩) 2 2), (3, iV 0), (5, .slice p n c), (9, .slice (some ⟨r, 0, none⟩) 2 2), (10, iV 2), (11, iV 0)] fun lr5 => ?_
 refine ySq ?_
 refine yPl [0, 1, 2, 3, 4] ?_
 refine yBb [] [(3, iV (n : Int)), (18, iV (n : Int)), (17, iV (n : Int)), (16, .slice p n c), (15, iV 0)] [e0 0, e0 1, e0 2, e1 3 (iV (n : Int)), e0 4] [] [(iV (IntKind.wrap .i64 (0 + (n : Int))), iV (n : Int))] ⟨(ov_i64 (by omega) (by omega) (by omega)), trivial⟩ nC (.mk ?_)
 refine yK [(0, .slice (some ⟨r, 0, none⟩) 2 2), (3, iV (n : Int)), (9, .slice (some ⟨r, 0, none⟩) 2 2), (10, iV 2), (11, iV 0)] fun lr6 => ?_
 refine ySq ?_
 refine yPl [0, 1] ?_
 refine yBb [] [(20, .bool false), (19, iV (n : Int))] [e0 0, e1 1 (.bool false)] [] [(.bool (decide ((n : Int) < 0)), .bool false)] ⟨(ov_f (by omega)), trivial⟩ nC (.mk ?_)
 refine yK [(0, .slice (some ⟨r, 0, none⟩) 2 2), (3, iV (n : Int)), (9, .slice (some ⟨r, 0, none⟩) 2 2), (10, iV 2), (11, iV 0), (20, .bool false)] fun lr7 => ?_
 refine yCf ?_
 refine ySk ?_
 refine yPl [0, 1] ?_
 refine yB0 [] [0, 1] [(11, iV 1), (22, iV 1)] (.mk ?_)
 refine yK [(0, .slice (some ⟨r, 0, none⟩) 2 2), (3, iV (n : Int)), (9, .slice (some ⟨r, 0, none⟩) 2 2), (10, iV 2), (11, iV 1), (20, .bool false)] fun lr8 => ?_
 refine ySq ?_
 refine yPl [0] ?_
 refine yB0 [] [0] [(12, .bool true)] (.mk ?_)
 refine yK [(0, .slice (some ⟨r, 0, none⟩) 2 2), (3, iV (n : Int)), (9, .slice (some ⟨r, 0, none⟩) 2 2), (10, iV 2), (11, iV 1), (12, .bool true)] fun lr9 => ?_
 refine ySq ?_
 refine yCt ?_
 refine ySk ?_
 refine ySq ?_
 refine yBk 1 ?_
 refine ySq ?_
 refine yPl [0, 1, 2] ?_
 refine plain_law (i := 0) 13 (.pointer (some ⟨r, 1, none⟩)) (by kernel_rfl) (law_indexSl (o := opA (RA Tryz.f162 [1, 1, 0, 1, 0, 0, 1, 1, 0, 0, 0]) 0) (x := (Operand.tmp 9)) (i := (Operand.tmp 11)) (b := r) (off := 0) (z := 1) (len := 2) (cap := 2) (by kernel_rfl) Tryz.underlying312 1 (by kernel_rfl) 1 (by kernel_rfl) (by kernel_rfl) (by omega) (by omega) 1 (by omega) _) ?_
 refine yBb [] [(5, .slice q m d), (14, .slice q m d)] [e2 1 [.slice q m d], e0 2] [(1, ⟨r, 1, none⟩, .slice q m d)] [] trivial (kC (sat_cell h0 0 rfl rfl) nC) (.mk ?_)
 refine yK [(0, .slice (some ⟨r, 0, none⟩) 2 2), (3, iV (n : Int)), (5, .slice q m d), (9, .slice (some ⟨r, 0, none⟩) 2 2), (10, iV 2), (11, iV 1)] fun lr10 => ?_
 refine ySq ?_
 refine yPl [0, 1, 2, 3, 4] ?_
 refine yBb [] [(3, iV ((n : Int) + (m : Int))), (18, iV ((n : Int) + (m : Int))), (17, iV (m : Int)), (16, .slice q m d), (15, iV (n : Int))] [e0 0, e0 1, e0 2, e1 3 (iV ((n : Int) + (m : Int))), e0 4] [] [(iV (IntKind.wrap .i64 ((n : Int) + (m : Int))), iV ((n : Int) + (m : Int)))] ⟨(ov_i64 (by omega) (by omega) (by omega)), trivial⟩ nC (.mk ?_)
 refine yK [(0, .slice (some ⟨r, 0, none⟩) 2 2), (3, iV ((n : Int) + (m : Int))), (9, .slice (some ⟨r, 0, none⟩) 2 2), (10, iV 2), (11, iV 1)] fun lr11 => ?_
 refine ySq ?_
 refine yPl [0, 1] ?_
 refine yBb [] [(20, .bool false), (19, iV ((n : Int) + (m : Int)))] [e0 0, e1 1 (.bool false)] [] [(.bool (decide ((n : Int) + (m : Int) < 0)), .bool false)] ⟨(ov_f (by omega)), trivial⟩ nC (.mk ?_)
 refine yK [(0, .slice (some ⟨r, 0, none⟩) 2 2), (3, iV ((n : Int) + (m : Int))), (9, .slice (some ⟨r, 0, none⟩) 2 2), (10, iV 2), (11, iV 1), (20, .bool false)] fun lr12 => ?_
 refine yCf ?_
 refine ySk ?_
 refine yPl [0, 1] ?_
 refine yB0 [] [0, 1] [(11, iV 2), (22, iV 2)] (.mk ?_)
 refine yK [(0, .slice (some ⟨r, 0, none⟩) 2 2), (3, iV ((n : Int) + (m : Int))), (9, .slice (some ⟨r, 0, none⟩) 2 2), (10, iV 2), (11, iV 2), (20, .bool false)] fun lr13 => ?_
 refine ySq ?_
 refine yPl [0] ?_
 refine yB0 [] [0] [(12, .bool false)] (.mk ?_)
 refine yK [(0, .slice (some ⟨r, 0, none⟩) 2 2), (3, iV ((n : Int) + (m : Int))), (9, .slice (some ⟨r, 0, none⟩) 2 2), (10, iV 2), (11, iV 2), (12, .bool false)] fun lr14 => ?_
 refine ySq ?_
 refine yCf ?_
 refine yEx 0 ?_
 refine ySq ?_
 refine yPl [0, 1, 2] ?_
 refine yB0 [1, 2] [0] [(23, iV ((n : Int) + (m : Int)))] ?_
 refine yA ?_
 refine yCl 24 Tryz.call218 (grow_ht (n + m) ((n : Int) + (m : Int)) (by omega) (by omega)) h0 ?_
 rintro v K w17 (⟨p15, cap16, rfl, rfl⟩) h18
 refine ⟨_, rfl, ?_⟩
 have h19 := ap1 h18
 obtain ⟨hn20, hn21⟩ := sl_le h19
 refine yB0 [] [2] [(6, .slice p15 0 cap16)] (.mk ?_)
 refine yK [(0, .slice (some ⟨r, 0, none⟩) 2 2), (6, .slice p15 0 cap16)] fun lr22 => ?_
 refine ySq ?_
 refine ySq ?_
 refine yPl [0, 1, 2] ?_
 refine yBb [] [(27, iV 0), (26, iV 2), (25, .slice (some ⟨r, 0, none⟩) 2 2)] [e0 0, e1 1 (iV 2), e0 2] [] [(iV (2 : Int), iV 2)] ⟨(ov_int (by omega)), trivial⟩ nC (.mk ?_)
 refine yK [(6, .slice p15 0 cap16), (25, .slice (some ⟨r, 0, none⟩) 2 2), (26, iV 2), (27, iV 0)] fun lr23 => ?_
 refine yBk 2 ?_
 refine gi_unr (x := CA Tryz.f162 [1, 1, 1, 1, 0, 1, 0, 0]) 3 (by kernel_rfl) ?_
 refine ySq ?_
 refine yPl [0] ?_
 refine yB0 [] [0] [(28, .bool true)] (.mk ?_)
 refine yK [(6, .slice p15 0 cap16), (25, .slice (some ⟨r, 0, none⟩) 2 2), (26, iV 2), (27, iV 0), (28, .bool true)] fun lr24 => ?_
 refine ySq ?_
 refine yCt ?_
 refine ySk ?_
 refine ySq ?_
 refine yBk 3 ?_
 refine ySq ?_
 refine yPl [0, 1, 2] ?_
 refine plain_law (i := 0) 29 (pV r) (by kernel_rfl) (law_indexSl (o := opA (RA Tryz.f162 [1, 1, 1, 1, 0, 1, 0, 0, 1, 1, 0, 0, 0]) 0) (x := (Operand.tmp 25)) (i := (Operand.tmp 27)) (b := r) (off := 0) (z := 0) (len := 2) (cap := 2) (by kernel_rfl) Tryz.underlying312 1 (by kernel_rfl) 0 (by kernel_rfl) (by kernel_rfl) (by omega) (by omega) 0 (by omega) _) ?_
 refine yBb [] [(8, .slice p n c), (30, .slice p n c)] [e2 1 [.slice p n c], e0 2] [(1, ⟨r, 0, none⟩, .slice p n c)] [] trivial (kC (sat_cell h19 1 rfl rfl) nC) (.mk ?_)
 refine yK [(6, .slice p15 0 cap16), (8, .slice p n c), (25, .slice (some ⟨r, 0, none⟩) 2 2), (26, iV 2), (27, iV 0)] fun lr25 => ?_
 refine yPl [0, 1, 2, 3] ?_
 refine yB0 [2, 3] [0, 1] [(32, .slice p n c), (31, .slice p15 0 cap16)] ?_
 refine yA ?_
 refine an_append_gv (d := 33) (sz := 1) (s := (Operand.tmp 31)) (x := (Operand.tmp 32)) (z := iV 0) (p := p15) (p2 := p) (m := 0) (c := cap16) (k := n) (c2 := c) (by_ := 8) (by kernel_rfl) (by kernel_rfl) rfl Tryz.underlying37 (by kernel_rfl) rfl (by decide) (by kernel_rfl) (by kernel_rfl) h19 2 rfl (fl eI L) hX (by rw [fl_len eI_ok, hlL]) (fl_one eI_ok _) (by omega) (by omega) n (by omega) ?_
 intro p26 cap27 w28 h29
 have h30 : sat g w28 [Sl 3 1 p26 n cap27 (fl eI L), Cl r [.slice p n c, .slice q m d] 37, X, Y, R] := sat_imp h29 (fun _ hh => by exact hh)
 obtain ⟨hn31, hn32⟩ := sl_le h30
 refine yB0 [] [3] [(6, .slice p26 n cap27)] (.mk ?_)
 refine yK [(6, .slice p26 n cap27), (25, .slice (some ⟨r, 0, none⟩) 2 2), (26, iV 2), (27, iV 0)] fun lr33 => ?_
 refine yPl [0, 1] ?_
 refine yB0 [] [0, 1] [(27, iV 1), (34, iV 1)] (.mk ?_)
 refine yK [(6, .slice p26 n cap27), (25, .slice (some ⟨r, 0, none⟩) 2 2), (26, iV 2), (27, iV 1)] fun lr34 => ?_
 refine ySq ?_
 refine yPl [0] ?_
 refine yB0 [] [0] [(28, .bool true)] (.mk ?_)
 refine yK [(6, .slice p26 n cap27), (25, .slice (some ⟨r, 0, none⟩) 2 2), (26, iV 2), (27, iV 1), (28, .bool true)] fun lr35 => ?_
 refine ySq ?_
 refine yCt ?_
 refine ySk ?_
 refine ySq ?_
 refine yBk 3 ?_
 refine ySq ?_
 refine yPl [0, 1, 2] ?_
 refine plain_law (i := 0) 29 (.pointer (some ⟨r, 1, none⟩)) (by kernel_rfl) (law_indexSl (o := opA (RA Tryz.f162 [1, 1, 1, 1, 0, 1, 0, 0, 1, 1, 0, 0, 0]) 0) (x := (Operand.tmp 25)) (i := (Operand.tmp 27)) (b := r) (off := 0) (z := 1) (len := 2) (cap := 2) (by kernel_rfl) Tryz.underlying312 1 (by kernel_rfl) 1 (by kernel_rfl) (by kernel_rfl) (by omega) (by omega) 1 (by omega) _) ?_
 refine yBb [] [(8, .slice q m d), (30, .slice q m d)] [e2 1 [.slice q m d], e0 2] [(1, ⟨r, 1, none⟩, .slice q m d)] [] trivial (kC (sat_cell h30 1 rfl rfl) nC) (.mk ?_)
 refine yK [(6, .slice p26 n cap27), (8, .slice q m d), (25, .slice (some ⟨r, 0, none⟩) 2 2), (26, iV 2), (27, iV 1)] fun lr36 => ?_
 refine yPl [0, 1, 2, 3] ?_
 refine yB0 [2, 3] [0, 1] [(32, .slice q m d), (31, .slice p26 n cap27)] ?_
 refine yA ?_
 refine an_append_gv (d := 33) (sz := 1) (s := (Operand.tmp 31)) (x := (Operand.tmp 32)) (z := iV 0) (p := p26) (p2 := q) (m := n) (c := cap27) (k := m) (c2 := d) (by_ := 8) (by kernel_rfl) (by kernel_rfl) rfl Tryz.underlying37 (by kernel_rfl) rfl (by decide) (by kernel_rfl) (by kernel_rfl) h30 3 rfl (fl eI M) hY (by rw [fl_len eI_ok, hlM]) (fl_one eI_ok _) (by omega) (by omega) (n + m) (by omega) ?_
 intro p37 cap38 w39 h40
 have h41 : sat g w39 [Sl 3 1 p37 (n + m) cap38 (fl eI (L ++ M)), Cl r [.slice p n c, .slice q m d] 37, X, Y, R] := sat_imp h40 (fun _ hh => by rw [fl_app]; exact hh)
 obtain ⟨hn42, hn43⟩ := sl_le h41
 refine yB0 [] [3] [(6, .slice p37 (n + m) cap38)] (.mk ?_)
 refine yK [(6, .slice p37 (n + m) cap38), (25, .slice (some ⟨r, 0, none⟩) 2 2), (26, iV 2), (27, iV 1)] fun lr44 => ?_
 refine yPl [0, 1] ?_
 refine yB0 [] [0, 1] [(27, iV 2), (34, iV 2)] (.mk ?_)
 refine yK [(6, .slice p37 (n + m) cap38), (25, .slice (some ⟨r, 0, none⟩) 2 2), (26, iV 2), (27, iV 2)] fun lr45 => ?_
 refine ySq ?_
 refine yPl [0] ?_
 refine yB0 [] [0] [(28, .bool false)] (.mk ?_)
 refine yK [(6, .slice p37 (n + m) cap38), (25, .slice (some ⟨r, 0, none⟩) 2 2), (26, iV 2), (27, iV 2), (28, .bool false)] fun lr46 => ?_
 refine ySq ?_
 refine yCf ?_
 refine yEx 2 ?_
 refine ySq ?_
 refine yPl [0, 1] ?_
 refine yB0 [] [0, 1] [(2, .slice p37 (n + m) cap38), (35, .slice p37 (n + m) cap38)] (.mk ?_)
 refine yK [(2, .slice p37 (n + m) cap38)] fun lr47 => ?_
 refine yRt ?_
 repeat (first | simp only [Exit.inBlock] | simp only [Exit.then])
 refine hi_out [] (.slice p37 (n + m) cap38) [] (by kernel_rfl) (by intro q hq; cases hq) ?_
 exact ⟨.slice p37 (n + m) cap38, [Sl 3 1 p37 (n + m) cap38 (fl eI (L ++ M)), Cl r [.slice p n c, .slice q m d] 37, X, Y], rfl, ⟨p37, cap38, (by rw [show n + m = n + m from by omega]), rfl⟩, h41⟩

end Go.Proofs.YtehlamblpekmkaaGreatDoor

/- Walks, printed by my generator ../out/a3.py. -/
namespace Go.Proofs.YtehlamblpekmkaaGreatDoor
set_option maxHeartbeats 4000000
theorem new_ht  : HT Tryz.prog 101 [] [] (fun v K => ∃ b, v = Value.pointer (some ⟨b, 0, none⟩) ∧ K = [Sr 239 b []]) := by
 refine hi_in 3 ([] : Fr) Tryz.func101 (by kernel_rfl) Tryz.ntmps101 rfl rfl ?_
 intro g w0 R h0
 refine ySq ?_
 refine yPl [0] ?_
 refine yB0 [] [0] [(0, .pointer none)] (.mk ?_)
 refine yK [] fun lr1 => ?_
 refine ySq ?_
 refine yPl [0, 1, 2] ?_
 refine yB0 [1, 2] [0] [(1, .agg #[.bool true, .slice none 0 0])] ?_
 refine yA ?_
 refine yNp 2 239 [.bool true, .slice none 0 0] h0 fun r2 w3 h4 => ?_
 refine yB0 [] [2] [(0, pV r2)] (.mk ?_)
 refine yK [(0, pV r2)] fun lr5 => ?_
 refine yRt ?_
 repeat (first | simp only [Exit.inBlock] | simp only [Exit.then])
 have h6 : sat g w3 [Vw 3 1 none 0 0 (fl eI []), Cl r2 [.bool true, .slice none 0 0] 239, R] := vw_nil 3 1 h4
 have h7 := tk3 (sf2 (sf1 (sf2 h6)))
 have h8 : sat g w3 [Sr 239 r2 [], R] := sr_close (p := none) (c := 0) (by simp) h7
 refine hi_out [] (pV r2) [] (by kernel_rfl) (by intro q hq; cases hq) ?_
 exact ⟨pV r2, [Sr 239 r2 []], rfl, ⟨r2, rfl, rfl⟩, h8⟩

theorem add_ht (wo : World) (hg : Lett wo) (b : Nat) (L : List Int) (l : List UInt8) (hl : l.length ≤ 1099511627776) : HT Tryz.prog 81 [Value.pointer (some ⟨b, 0, none⟩), Value.string (St l)] [Sr 239 b L, Old wo] (fun v K => v = Value.int .i64 (addE L l) ∧ K = [Sr 239 b (addL L l), Old wo]) := by
 refine hi_in 39 ([(0, pV b), (1, .string (St l))] : Fr) Tryz.func81 (by kernel_rfl) Tryz.ntmps81 rfl rfl ?_
 intro g w0 R h0
 obtain ⟨hl4, p1, cap2, h3⟩ := sr_open h0
 have h5 := tk4 (sf3 (sf2 (sf3 (sf3 h3))))
 obtain ⟨hn6, hn7⟩ := vw_le h5
 refine ySq ?_
 refine yPl [0] ?_
 refine yB0 [] [0] [(4, iV 0)] (.mk ?_)
 refine yK [(0, pV b), (1, .string (St l))] fun lr8 => ?_
 refine ySq ?_
 refine ySq ?_
 refine yPl [0, 1, 2] ?_
 refine yB0 [1, 2] [0] [(7, pV b)] ?_
 have h9 := tk4 (sf3 (sf2 (sf3 (sf3 h5))))
 refine yA ?_
 refine yCl 8 Tryz.call160 (valid_ht b _) h9 ?_
 rintro v K w10 (⟨rfl, rfl⟩) h11
 refine ⟨_, rfl, ?_⟩
 have h12 := ap1 h11
 refine yB0 [] [2] [(9, .bool false)] (.mk ?_)
 refine yK [(0, pV b), (1, .string (St l)), (9, .bool false)] fun lr13 => ?_
 refine yCf ?_
 refine ySk ?_
 refine ySq ?_
 refine yPl [0, 1, 2, 3, 4, 5, 6] ?_
 refine yB0 [1, 2, 3, 4, 5, 6] [0] [(11, .string (St l))] ?_
 have h16 := tk4 (sf3 (sf2 (sf2 (sf3 h12))))
 refine yA ?_
 refine yCl 12 Tryz.call161 (parse_ht wo hg l (by omega)) h16 ?_
 rintro v K w17 (⟨p14, cap15, rfl, rfl⟩) h18
 refine ⟨_, rfl, ?_⟩
 have h19 := ap2 h18
 obtain ⟨hn20, hn21⟩ := sl_le h19
 have hq22 := prs_len l
 refine yB0 [] [2, 3, 4, 5, 6] [(6, iV ((prs l).2)), (5, .slice p14 ((((prs l).1).length)) cap15), (14, iV ((prs l).2)), (13, .slice p14 ((((prs l).1).length)) cap15), (10, .tuple #[.slice p14 ((((prs l).1).length)) cap15, iV ((prs l).2)])] (.mk ?_)
 refine yK [(0, pV b), (5, .slice p14 ((((prs l).1).length)) cap15), (6, iV ((prs l).2))] fun lr23 => ?_
 refine ySq ?_
 refine yBk 0 ?_
 refine ySq ?_
 refine yPl [0, 1, 2] ?_
 refine yB0 [1, 2] [0] [(16, iV ((prs l).2))] ?_
 by_cases c24 : (prs l).2 = 0
 ·
  refine yBb [] [(15, .bool false), (17, .bool false)] [e1 1 (.bool false), e0 2] [] [(.bool (((prs l).2) != 0), .bool false)] ⟨(ov_nf (by omega)), trivial⟩ nC (.mk ?_)
  refine yK [(0, pV b), (5, .slice p14 ((((prs l).1).length)) cap15), (6, iV ((prs l).2)), (15, .bool false)] fun lr25 => ?_
  refine yCf ?_
  refine ySq ?_
  refine yPl [0, 1, 2, 3, 4, 5, 6, 7, 8, 9] ?_
  refine yBb [8, 9] [(27, iV (((L.length : Nat) : Int) + ((((prs l).1).length : Nat) : Int))), (26, iV (((((prs l).1).length : Nat) : Int))), (25, .slice p14 ((((prs l).1).length)) cap15), (24, iV (((L.length : Nat) : Int))), (23, .slice p1 L.length cap2), (22, .pointer (some ⟨b, 1, none⟩)), (21, pV b), (20, pV b)] [e0 0, e0 1, e0 2, e2 3 [.slice p1 L.length cap2], e0 4, e0 5, e0 6, e1 7 (iV (((L.length : Nat) : Int) + ((((prs l).1).length : Nat) : Int)))] [(3, ⟨b, 1, none⟩, .slice p1 L.length cap2)] [(iV (IntKind.wrap .i64 ((((L.length : Nat) : Int)) + (((((prs l).1).length : Nat) : Int)))), iV (((L.length : Nat) : Int) + ((((prs l).1).length : Nat) : Int)))] ⟨(ov_i64 (by omega) (by omega) (by omega)), trivial⟩ (kC (sat_cell h19 2 rfl rfl) nC) ?_
  by_cases c26 : ((L.length : Nat) : Int) + ((((prs l).1).length : Nat) : Int) > 2000
  ·
   refine yBb [] [(19, .bool true), (28, .bool true)] [e1 8 (.bool true), e0 9] [] [(.bool (decide (((L.length : Nat) : Int) + ((((prs l).1).length : Nat) : Int) > 2000)), .bool true)] ⟨(ov_t (by omega)), trivial⟩ nC (.mk ?_)
   refine yK [(0, pV b), (5, .slice p14 ((((prs l).1).length)) cap15), (19, .bool true)] fun lr27 => ?_
   refine yCt ?_
   refine ySq ?_
   refine yPl [0] ?_
   refine yB0 [] [0] [(4, iV 11)] (.mk ?_)
   refine yK [(4, iV 11)] fun lr28 => ?_
   refine yRt ?_
   repeat (first | simp only [Exit.inBlock] | simp only [Exit.then])
   have h29 := tk5 (sf4 (sf4 (sf2 (sf2 (sf4 h19)))))
   have h30 : sat g w17 [Sr 239 b L, Sl 3 1 p14 ((((prs l).1).length)) cap15 (fl eI ((prs l).1)), Old wo, R] := sr_close (p := p1) (c := cap2) (by omega) h29
   have h31 := tk4 (sf3 (sf3 (sf2 (sf3 h30))))
   have h32 := tk3 (sf2 (sf2 (sf3 h31)))
   refine hi_out [] (iV 11) [] (by kernel_rfl) (by intro q hq; cases hq) ?_
   exact ⟨iV 11, [Sr 239 b L, Old wo], rfl, ⟨by rw [(add_many (by omega) (by omega)).1], by rw [(add_many (by omega) (by omega)).2]⟩, h32⟩
  ·
   refine yBb [] [(19, .bool false), (28, .bool false)] [e1 8 (.bool false), e0 9] [] [(.bool (decide (((L.length : Nat) : Int) + ((((prs l).1).length : Nat) : Int) > 2000)), .bool false)] ⟨(ov_f (by omega)), trivial⟩ nC (.mk ?_)
   refine yK [(0, pV b), (5, .slice p14 ((((prs l).1).length)) cap15), (19, .bool false)] fun lr33 => ?_
   refine yCf ?_
   refine ySk ?_
   refine ySq ?_
   refine yPl [0, 1, 2, 3, 4, 5, 6, 7, 8, 9, 10] ?_
   refine yBb [6, 7, 8, 9, 10] [(34, .slice p14 ((((prs l).1).length)) cap15), (33, .slice p1 L.length cap2), (32, .pointer (some ⟨b, 1, none⟩)), (31, pV b), (30, pV b), (29, pV b)] [e0 0, e0 1, e0 2, e0 3, e2 4 [.slice p1 L.length cap2], e0 5] [(4, ⟨b, 1, none⟩, .slice p1 L.length cap2)] [] trivial (kC (sat_cell h19 2 rfl rfl) nC) ?_
   refine yA ?_
   refine an_new (d := 35) (fun xb_ => .slice (some ⟨xb_, 0, none⟩) 2 2) (fun xb_ => Obj.cells [.slice p1 L.length cap2, .slice p14 ((((prs l).1).length)) cap15].toArray 37 (0, 0)) (fun xb_ => by kernel_rfl) (by kernel_rfl) rfl h19 ?_
   intro r34 w35 (h36 : sat g w35 [Cl r34 [.slice p1 L.length cap2, .slice p14 ((((prs l).1).length)) cap15] 37, Sl 3 1 p14 ((((prs l).1).length)) cap15 (fl eI ((prs l).1)), Old wo, Cl b [.bool true, .slice p1 L.length cap2] 239, Vw 3 1 p1 L.length cap2 (fl eI L), R])
   have h39 := tk6 (sf5 (sf5 (sf4 (sf4 (sf4 (sf5 h36))))))
   refine yA ?_
   refine yCl 36 Tryz.call162 (concat_ht r34 p1 p14 L.length ((((prs l).1).length)) cap2 cap15 L ((prs l).1) (Vw 3 1 p1 L.length cap2 (fl eI L)) (Sl 3 1 p14 ((((prs l).1).length)) cap15 (fl eI ((prs l).1))) (gv_vw _ _ _) (gv_sl _ _ _) rfl rfl (by omega)) h39 ?_
   rintro v K w40 (⟨p37, cap38, rfl, rfl⟩) h41
   refine ⟨_, rfl, ?_⟩
   have h42 := ap4 h41
   obtain ⟨hn43, hn44⟩ := sl_le h42
   refine yB0 [10] [8, 9] [(38, .pointer (some ⟨b, 1, none⟩)), (37, pV b)] ?_
   have h45 := tk7 (sf6 (sf5 (sf5 (sf5 (sf5 (sf5 (sf6 h42)))))))
   refine yA ?_
   refine yS [(1, .slice p37 (L.length + (((prs l).1).length)) cap38)] [.bool true, .slice p37 (L.length + (((prs l).1).length)) cap38] h45 fun w46 h47 => ?_
   refine PO.mk ?_
   refine yK [] fun lr48 => ?_
   refine ySq ?_
   refine yPl [0] ?_
   refine yB0 [] [0] [(4, iV 0)] (.mk ?_)
   refine yK [(4, iV 0)] fun lr49 => ?_
   refine yRt ?_
   repeat (first | simp only [Exit.inBlock] | simp only [Exit.then])
   have h50 : sat g w46 [Cl b [.bool true, .slice p37 (((L ++ (prs l).1).length)) cap38] 239, Sl 3 1 p37 (((L ++ (prs l).1).length)) cap38 (fl eI (L ++ ((prs l).1))), Cl r34 [.slice p1 L.length cap2, .slice p14 ((((prs l).1).length)) cap15] 37, Vw 3 1 p1 L.length cap2 (fl eI L), Sl 3 1 p14 ((((prs l).1).length)) cap15 (fl eI ((prs l).1)), Old wo, R] := (show L.length + (((prs l).1).length) = ((L ++ (prs l).1).length) from by rw [List.length_append]) ▸ h47
   have h51 := tk7 (sf6 (sf5 (sf6 (sf6 (sf6 (sf6 (sf6 h50)))))))
   have h52 : sat g w46 [Vw 3 1 p37 (((L ++ (prs l).1).length)) cap38 (fl eI (L ++ ((prs l).1))), Cl b [.bool true, .slice p37 (((L ++ (prs l).1).length)) cap38] 239, Cl r34 [.slice p1 L.length cap2, .slice p14 ((((prs l).1).length)) cap15] 37, Vw 3 1 p1 L.length cap2 (fl eI L), Sl 3 1 p14 ((((prs l).1).length)) cap15 (fl eI ((prs l).1)), Old wo, R] := vw_sl h51
   have h53 := tk7 (sf6 (sf5 (sf6 (sf6 (sf6 (sf6 (sf6 h52)))))))
   have h54 : sat g w46 [Sr 239 b (L ++ ((prs l).1)), Cl r34 [.slice p1 L.length cap2, .slice p14 ((((prs l).1).length)) cap15] 37, Vw 3 1 p1 L.length cap2 (fl eI L), Sl 3 1 p14 ((((prs l).1).length)) cap15 (fl eI ((prs l).1)), Old wo, R] := sr_close (p := p37) (c := cap38) (by rw [List.length_append]; omega) h53
   have h55 := tk6 (sf5 (sf5 (sf4 (sf4 (sf4 (sf5 h54))))))
   have h56 := tk3 (sf2 (sf2 (sf5 h55)))
   refine hi_out [] (iV 0) [] (by kernel_rfl) (by intro q hq; cases hq) ?_
   exact ⟨iV 0, [Sr 239 b (L ++ ((prs l).1)), Old wo], rfl, ⟨by rw [(add_ok (by omega) (by omega)).1], by rw [(add_ok (by omega) (by omega)).2]⟩, h56⟩
 ·
  refine yBb [] [(15, .bool true), (17, .bool true)] [e1 1 (.bool true), e0 2] [] [(.bool (((prs l).2) != 0), .bool true)] ⟨(ov_nt (by omega)), trivial⟩ nC (.mk ?_)
  refine yK [(0, pV b), (5, .slice p14 ((((prs l).1).length)) cap15), (6, iV ((prs l).2)), (15, .bool true)] fun lr57 => ?_
  refine yCt ?_
  refine ySq ?_
  refine yPl [0, 1] ?_
  refine yB0 [] [0, 1] [(4, iV ((prs l).2)), (18, iV ((prs l).2))] (.mk ?_)
  refine yK [(4, iV ((prs l).2))] fun lr58 => ?_
  refine yRt ?_
  repeat (first | simp only [Exit.inBlock] | simp only [Exit.then])
  have h59 := tk5 (sf4 (sf4 (sf2 (sf2 (sf4 h19)))))
  have h60 : sat g w17 [Sr 239 b L, Sl 3 1 p14 ((((prs l).1).length)) cap15 (fl eI ((prs l).1)), Old wo, R] := sr_close (p := p1) (c := cap2) (by omega) h59
  have h61 := tk4 (sf3 (sf3 (sf2 (sf3 h60))))
  have h62 := tk3 (sf2 (sf2 (sf3 h61)))
  refine hi_out [] (iV ((prs l).2)) [] (by kernel_rfl) (by intro q hq; cases hq) ?_
  exact ⟨iV ((prs l).2), [Sr 239 b L, Old wo], rfl, ⟨by rw [(add_err (by omega)).1], by rw [(add_err (by omega)).2]⟩, h62⟩

theorem next_ht (b : Nat) (L : List Int) : HT Tryz.prog 137 [Value.pointer (some ⟨b, 0, none⟩)] [Sr 239 b L] (fun v K => v = Value.int .i64 (L.headD 1) ∧ K = [Sr 239 b L.tail]) := by
 refine hi_in 30 ([(0, pV b)] : Fr) Tryz.func137 (by kernel_rfl) Tryz.ntmps137 rfl rfl ?_
 intro g w0 R h0
 obtain ⟨hl4, p1, cap2, h3⟩ := sr_open h0
 have h5 := tk3 (sf2 (sf1 (sf2 h3)))
 obtain ⟨hn6, hn7⟩ := vw_le h5
 refine ySq ?_
 refine yPl [0] ?_
 refine yB0 [] [0] [(2, iV 0)] (.mk ?_)
 refine yK [(0, pV b)] fun lr8 => ?_
 refine ySq ?_
 refine yBk 0 ?_
 refine ySq ?_
 refine yPl [0, 1, 2, 3] ?_
 refine yB0 [1, 2, 3] [0] [(5, pV b)] ?_
 have h9 := tk3 (sf2 (sf1 (sf2 h5)))
 refine yA ?_
 refine yCl 6 Tryz.call160 (valid_ht b _) h9 ?_
 rintro v K w10 (⟨rfl, rfl⟩) h11
 refine ⟨_, rfl, ?_⟩
 have h12 := ap1 h11
 refine yB0 [] [2, 3] [(4, .bool false), (7, .bool false)] (.mk ?_)
 refine yK [(0, pV b), (4, .bool false)] fun lr13 => ?_
 refine yCf ?_
 refine ySq ?_
 refine yPl [0, 1, 2, 3, 4, 5, 6] ?_
 refine yBb [5, 6] [(13, iV (((L.length : Nat) : Int))), (12, .slice p1 L.length cap2), (11, .pointer (some ⟨b, 1, none⟩)), (10, pV b), (9, pV b)] [e0 0, e0 1, e0 2, e2 3 [.slice p1 L.length cap2], e0 4] [(3, ⟨b, 1, none⟩, .slice p1 L.length cap2)] [] trivial (kC (sat_cell h12 0 rfl rfl) nC) ?_
 by_cases c14 : ((L.length : Nat) : Int) = 0
 ·
  refine yBb [] [(8, .bool true), (14, .bool true)] [e1 5 (.bool true), e0 6] [] [(.bool ((((L.length : Nat) : Int)) == 0), .bool true)] ⟨(ov_et (by omega)), trivial⟩ nC (.mk ?_)
  refine yK [(0, pV b), (8, .bool true)] fun lr15 => ?_
  refine yCt ?_
  refine ySq ?_
  refine yPl [0] ?_
  refine yB0 [] [0] [(2, iV 1)] (.mk ?_)
  refine yK [(2, iV 1)] fun lr16 => ?_
  refine yRt ?_
  repeat (first | simp only [Exit.inBlock] | simp only [Exit.then])
  have hnil_ : L = [] := List.eq_nil_of_length_eq_zero (by omega)
  have h17 : sat g w10 [Sr 239 b L, R] := sr_close (p := p1) (c := cap2) (by omega) h12
  refine hi_out [] (iV 1) [] (by kernel_rfl) (by intro q hq; cases hq) ?_
  exact ⟨iV 1, [Sr 239 b L], rfl, ⟨by rw [hnil_]; rfl, by rw [hnil_]; rfl⟩, h17⟩
 ·
  refine yBb [] [(8, .bool false), (14, .bool false)] [e1 5 (.bool false), e0 6] [] [(.bool ((((L.length : Nat) : Int)) == 0), .bool false)] ⟨(ov_ef (by omega)), trivial⟩ nC (.mk ?_)
  refine yK [(0, pV b), (8, .bool false)] fun lr18 => ?_
  refine yCf ?_
  refine ySk ?_
  refine ySq ?_
  refine yPl [0, 1, 2, 3, 4, 5, 6] ?_
  obtain ⟨b19, off21, hp20⟩ := gv_ptr (j := 1) h12 rfl (gv_vw _ _ _) (by omega)
  refine yBb [4, 5, 6] [(18, .slice p1 L.length cap2), (17, .pointer (some ⟨b, 1, none⟩)), (16, pV b), (15, pV b)] [e0 0, e0 1, e0 2, e2 3 [.slice p1 L.length cap2]] [(3, ⟨b, 1, none⟩, .slice p1 L.length cap2)] [] trivial (kC (sat_cell h12 0 rfl rfl) nC) ?_
  refine plain_law (i := 4) 19 (.pointer (some ⟨b19, off21, none⟩)) (by kernel_rfl) (law_indexSlP (o := opA (RA Tryz.f137 [1, 1, 0]) 4) (x := (Operand.tmp 18)) (i := (Operand.const (iV 0))) (p := p1) (b := b19) (off := off21) (z := 0) (len := L.length) (cap := cap2) (by kernel_rfl) Tryz.underlying37 1 (by kernel_rfl) 0 (by kernel_rfl) hp20 (by kernel_rfl) (by omega) (by omega) off21 (by omega) _) ?_
  obtain ⟨x22, hx23⟩ : ∃ x, L[0]? = some x := ⟨_, List.getElem?_eq_getElem (by omega)⟩
  refine yBb [] [(3, iV x22), (20, iV x22)] [e2 5 [iV x22], e0 6] [(5, ⟨b19, off21, none⟩, iV x22)] [] trivial (kC (gv_cell (j := 1) h12 rfl (gv_vw _ _ _) hp20 (fl_get eI_ok (j := 0) (v := iV x22) hx23 rfl) off21 (by omega)) nC) (.mk ?_)
  refine yK [(0, pV b), (3, iV x22)] fun lr24 => ?_
  refine ySq ?_
  refine yPl [0, 1, 2, 3, 4, 5, 6, 7, 8] ?_
  refine yBb [5, 6, 7, 8] [(25, .slice p1 L.length cap2), (24, .pointer (some ⟨b, 1, none⟩)), (23, pV b), (22, pV b), (21, pV b)] [e0 0, e0 1, e0 2, e0 3, e2 4 [.slice p1 L.length cap2]] [(4, ⟨b, 1, none⟩, .slice p1 L.length cap2)] [] trivial (kC (sat_cell h12 0 rfl rfl) nC) ?_
  refine plain_law (i := 5) 26 (.slice (some ⟨b19, (if cap2 = 1 then off21 else off21 + 1), none⟩) (L.length - 1) (cap2 - 1)) (by kernel_rfl) (law_sliceSlP (p := p1) (o := opA (RA Tryz.f137 [1, 1, 1, 0]) 5) (x := (Operand.tmp 25)) (lo := (some (Operand.const (iV 1)))) (hi := none) (b := b19) (off := off21) (m := L.length) (c := cap2) (by kernel_rfl) Tryz.underlying37 1 (by kernel_rfl) 1 (((L.length : Nat) : Int)) 1 L.length (by kernel_rfl) hp20 (show fe _ _ (Operand.const (iV 1)) = _ from by kernel_rfl) rfl (by omega) (by omega) (by omega) (by omega) ((if cap2 = 1 then off21 else off21 + 1)) (ite_r (by omega)) (L.length - 1) (cap2 - 1) (by omega) (by omega) _) ?_
  refine yB0 [8] [6, 7] [(28, .pointer (some ⟨b, 1, none⟩)), (27, pV b)] ?_
  refine yA ?_
  refine yS [(1, .slice (some ⟨b19, (if cap2 = 1 then off21 else off21 + 1), none⟩) (L.length - 1) (cap2 - 1))] [.bool true, .slice (some ⟨b19, (if cap2 = 1 then off21 else off21 + 1), none⟩) (L.length - 1) (cap2 - 1)] h12 fun w25 h26 => ?_
  refine PO.mk ?_
  refine yK [(3, iV x22)] fun lr27 => ?_
  refine ySq ?_
  refine yPl [0, 1] ?_
  refine yB0 [] [0, 1] [(2, iV x22), (29, iV x22)] (.mk ?_)
  refine yK [(2, iV x22)] fun lr28 => ?_
  refine yRt ?_
  repeat (first | simp only [Exit.inBlock] | simp only [Exit.then])
  have h29 := tk3 (sf2 (sf1 (sf2 h26)))
  obtain ⟨q30, hq31⟩ : ∃ q : Option Addr, q = some ⟨b19, (if cap2 = 1 then off21 else off21 + 1), none⟩ := ⟨_, rfl⟩
  have h32 : sat g w25 [Vw 3 1 q30 L.tail.length (cap2 - 1) (fl eI L.tail), Cl b [.bool true, .slice q30 L.tail.length (cap2 - 1)] 239, R] := by
   have h_ := sr_next hp20 hq31 (by omega) (by first | rfl | (split <;> omega)) h29
   rw [← hq31, ← List.length_tail] at h_
   exact h_
  have h33 := tk3 (sf2 (sf1 (sf2 h32)))
  have h34 : sat g w25 [Sr 239 b L.tail, R] := sr_close (p := q30) (c := (cap2 - 1)) (by rw [List.length_tail]; omega) h33
  refine hi_out [] (iV x22) [] (by kernel_rfl) (by intro q hq; cases hq) ?_
  exact ⟨iV x22, [Sr 239 b L.tail], rfl, ⟨congrArg (Value.int .i64) (hd_tl hx23).symm, rfl⟩, h34⟩

theorem copy_ht (b : Nat) (L : List Int) : HT Tryz.prog 113 [Value.pointer (some ⟨b, 0, none⟩)] [Sr 239 b L] (fun v K => ∃ b2, v = Value.pointer (some ⟨b2, 0, none⟩) ∧ K = [Sr 239 b2 L, Sr 239 b L]) := by
 refine hi_in 13 ([(0, pV b)] : Fr) Tryz.func113 (by kernel_rfl) Tryz.ntmps113 rfl rfl ?_
 intro g w0 R h0
 obtain ⟨hl4, p1, cap2, h3⟩ := sr_open h0
 have h5 := tk3 (sf2 (sf1 (sf2 h3)))
 obtain ⟨hn6, hn7⟩ := vw_le h5
 refine ySq ?_
 refine yPl [0] ?_
 refine yB0 [] [0] [(2, .pointer none)] (.mk ?_)
 refine yK [(0, pV b)] fun lr8 => ?_
 refine ySq ?_
 refine ySq ?_
 refine yPl [0, 1, 2] ?_
 refine yB0 [1, 2] [0] [(3, pV b)] ?_
 have h9 := tk3 (sf2 (sf1 (sf2 h5)))
 refine yA ?_
 refine yCl 4 Tryz.call160 (valid_ht b _) h9 ?_
 rintro v K w10 (⟨rfl, rfl⟩) h11
 refine ⟨_, rfl, ?_⟩
 have h12 := ap1 h11
 refine yB0 [] [2] [(5, .bool false)] (.mk ?_)
 refine yK [(0, pV b), (5, .bool false)] fun lr13 => ?_
 refine yCf ?_
 refine ySk ?_
 refine ySq ?_
 refine yPl [0, 1, 2, 3, 4, 5, 6, 7] ?_
 refine yBb [4, 5, 6, 7] [(9, .slice p1 L.length cap2), (8, .pointer (some ⟨b, 1, none⟩)), (7, pV b), (6, pV b)] [e0 0, e0 1, e0 2, e2 3 [.slice p1 L.length cap2]] [(3, ⟨b, 1, none⟩, .slice p1 L.length cap2)] [] trivial (kC (sat_cell h12 0 rfl rfl) nC) ?_
 have h16 := tk3 (sf2 (sf1 (sf2 h12)))
 refine yA ?_
 refine yCl 10 Tryz.call126 (clone_ht p1 L.length cap2 L (Vw 3 1 p1 L.length cap2 (fl eI L)) (gv_vw _ _ _) rfl (by omega)) h16 ?_
 rintro v K w17 (⟨p14, cap15, rfl, rfl⟩) h18
 refine ⟨_, rfl, ?_⟩
 have h19 := ap2 h18
 obtain ⟨hn20, hn21⟩ := sl_le h19
 refine yB0 [6, 7] [5] [(11, .agg #[.bool true, .slice p14 L.length cap15])] ?_
 refine yA ?_
 refine yNp 12 239 [.bool true, .slice p14 L.length cap15] h19 fun r22 w23 h24 => ?_
 refine yB0 [] [7] [(2, pV r22)] (.mk ?_)
 refine yK [(2, pV r22)] fun lr25 => ?_
 refine yRt ?_
 repeat (first | simp only [Exit.inBlock] | simp only [Exit.then])
 have h26 := tk5 (sf4 (sf3 (sf2 (sf2 (sf4 h24)))))
 have h27 : sat g w23 [Sr 239 b L, Cl r22 [.bool true, .slice p14 L.length cap15] 239, Sl 3 1 p14 L.length cap15 (fl eI L), R] := sr_close (p := p1) (c := cap2) (by omega) h26
 have h28 := tk4 (sf3 (sf2 (sf2 (sf3 h27))))
 have h29 : sat g w23 [Vw 3 1 p14 L.length cap15 (fl eI L), Sr 239 b L, Cl r22 [.bool true, .slice p14 L.length cap15] 239, R] := vw_sl h28
 have h30 := tk4 (sf3 (sf2 (sf2 (sf3 h29))))
 have h31 : sat g w23 [Sr 239 r22 L, Sr 239 b L, R] := sr_close (p := p14) (c := cap15) (by omega) h30
 refine hi_out [] (pV r22) [] (by kernel_rfl) (by intro q hq; cases hq) ?_
 exact ⟨pV r22, [Sr 239 r22 L, Sr 239 b L], rfl, ⟨r22, rfl, rfl⟩, h31⟩

end Go.Proofs.YtehlamblpekmkaaGreatDoor

/-
  The outer world (chapter 12), as plain functions: tables with values, answers, attempts, the time. No program in sight.
-/
namespace Go.Proofs.YtehlamblpekmkaaGreatDoor
set_option maxHeartbeats 4000000
structure At where
  at_ : Int
  out : Ky
  why : Int
  ans : Int
def eAt (a : At) : List Value := [.int .i64 a.at_, .int .i64 a.out.1, .int .i64 a.out.2.1, .int .u32 a.out.2.2, .int .i64 a.why, .int .i64 a.ans]
theorem eAt_ok : Enc 6 eAt := ⟨fun _ => rfl, fun x v hv => by simp [eAt] at hv; rcases hv with rfl | rfl | rfl | rfl | rfl | rfl <;> rfl⟩
def outE (o : Ky) : Int := if 1 ≤ o.1 ∧ o.1 ≤ 3 ∧ 0 ≤ o.2.1 ∧ o.2.1 ≤ 63 ∧ 1 ≤ o.2.2 then 0 else 2
def attP (a : At) : Prop := 0 ≤ a.at_ ∧ a.at_ ≤ 1099511627776 ∧ outE a.out = 0 ∧ 1 ≤ a.why ∧ a.why ≤ 3 ∧ 1 ≤ a.ans ∧ a.ans ≤ 3
instance (a : At) : Decidable (attP a) := by unfold attP; infer_instance
def attE (a : At) : Int := if attP a then 0 else 2
theorem outE_iff {o : Ky} : outE o = 0 ↔ 1 ≤ o.1 ∧ o.1 ≤ 3 ∧ 0 ≤ o.2.1 ∧ o.2.1 ≤ 63 ∧ 1 ≤ o.2.2 := by
  unfold outE
  split
  · exact ⟨fun _ => ‹_›, fun _ => rfl⟩
  · exact ⟨fun h => absurd h (by decide), fun h => absurd h ‹_›⟩
theorem kgood_iff {o : Ky} : outE o = 0 ↔ KGood o := outE_iff
def fre (X : Xs) : Option (Nat × Int) := (inS 0 (As X) 0)[0]?
theorem fre_some {X : Xs} {i : Nat} {g : Int} (h : fre X = some (i, g)) : ∃ v, X[i]? = some (0, g, v) := by
  have h1 := (inS_mem h).2
  rw [Nat.sub_zero] at h1
  unfold As at h1
  rw [List.getElem?_map, Option.map_eq_some_iff] at h1
  obtain ⟨⟨a, b, c⟩, h2, h3⟩ := h1
  simp only [sl2, Prod.mk.injEq] at h3
  obtain ⟨rfl, rfl⟩ := h3
  exact ⟨c, h2⟩
theorem fre_none {X : Xs} : fre X = none ↔ (inS 0 (As X) 0).length = 0 := by
  unfold fre
  rw [List.getElem?_eq_none_iff]
  omega
theorem fre_pos {X : Xs} (h : 0 < (inS 0 (As X) 0).length) : fre X = some (((inS 0 (As X) 0).getD 0 (0, 0)).1, ((inS 0 (As X) 0).getD 0 (0, 0)).2) := by
  unfold fre
  rw [List.getElem?_eq_getElem h, getD_some (List.getElem?_eq_getElem h)]
def grw (X : Xs) (v : Int) : Xs := match fre X with
  | none => X
  | some (i, g) => X.set i (1, g, v)
def nam (k : Int) (X : Xs) : Ky := match fre X with
  | none => (0, 0, 0)
  | some (i, g) => (k, (i : Int), g)
def allK (k : Int) (X : Xs) : List Ky := (inS 1 (As X) 0).map fun r => (k, (r.1 : Int), r.2)
def used (X : Xs) : Int := (X.map fun x => if x.1 = 1 then x.2.2 else 0).sum
def giv (X : Xs) (o : Ky) : Xs := X.set o.2.1.toNat (shut o.2.2)
def Vals (X : Xs) (V : List Int) : Prop := V.length = 64 ∧ ∀ (i : Nat) (g v : Int), X[i]? = some (1, g, v) → V[i]? = some v
theorem vals_new {n : Nat} {g : Int} : Vals (List.replicate n (0, g, 0)) (List.replicate 64 0) := ⟨List.length_replicate, fun i a v h => by
  have := List.eq_of_mem_replicate (List.mem_of_getElem? h)
  simp only [Prod.mk.injEq] at this
  exact absurd this.1 (by decide)⟩
theorem vals_open {X : Xs} {V : List Int} {q : Nat} {g v : Int} (h : Vals X V) (hq : q < 64) : Vals (X.set q (1, g, v)) (V.set q v) := ⟨by rw [List.length_set]; exact h.1, fun i a u hi => by
  rcases set_cases hi with ⟨rfl, h2⟩ | ⟨h1, h2⟩
  · simp only [Prod.mk.injEq] at h2
    obtain ⟨_, rfl, rfl⟩ := h2
    exact List.getElem?_set_self (by rw [h.1]; exact hq)
  · rw [List.getElem?_set_ne (fun e => h1 e.symm)]
    exact h.2 i a u h2⟩
theorem vals_shut {X : Xs} {V : List Int} {q : Nat} {e g v : Int} (h : Vals X V) (he : e ≠ 1) : Vals (X.set q (e, g, v)) V := ⟨h.1, fun i a u hi => by
  rcases set_cases hi with ⟨rfl, h2⟩ | ⟨h1, h2⟩
  · simp only [Prod.mk.injEq] at h2
    exact absurd h2.1.symm he
  · exact h.2 i a u h2⟩
theorem shut_st (z : Int) : (shut z).1 ≠ 1 := by
  unfold shut
  split
  · exact (by decide : (0 : Int) ≠ 1)
  · exact (by decide : (2 : Int) ≠ 1)
theorem vals_giv {X : Xs} {V : List Int} (o : Ky) (h : Vals X V) : Vals (giv X o) V := by
  have h1 := shut_st o.2.2
  unfold giv
  generalize shut o.2.2 = q at h1 ⊢
  exact vals_shut (e := q.1) (g := q.2.1) (v := q.2.2) h h1
theorem vals_off {X : Xs} {V : List Int} (o : Ky) (u : Int) (h : Vals X V) : Vals (giv X o) (V.set o.2.1.toNat u) := by
  have h1 := vals_giv o h
  refine ⟨by rw [List.length_set]; exact h.1, fun i a v hi => ?_⟩
  rcases set_cases (show (X.set o.2.1.toNat (shut o.2.2))[i]? = some (1, a, v) from hi) with ⟨rfl, h2⟩ | ⟨h3, h2⟩
  · exact absurd (congrArg Prod.fst h2).symm (shut_st _)
  · rw [List.getElem?_set_ne (fun e => h3 e.symm)]
    exact h1.2 i a v hi
structure Wst where
  F : Xs
  B : Xs
  D : Xs
  q : List Int
  T : List At
  now : Int
def Wst.tab (S : Wst) (k : Int) : Xs := if k = 1 then S.F else if k = 2 then S.B else S.D
def Wst.put (S : Wst) (k : Int) (X : Xs) : Wst := if k = 1 then { S with F := X } else if k = 2 then { S with B := X } else { S with D := X }
def wnew (g : Int) : Wst := ⟨List.replicate 64 (0, g, 0), List.replicate 64 (0, g, 0), List.replicate 64 (0, g, 0), [], [], 0⟩
def allS (S : Wst) : List Ky := allK 1 S.F ++ (allK 2 S.B ++ allK 3 S.D)
def Thr (S : Wst) (o : Ky) : Prop := KGood o ∧ (As (S.tab o.1))[o.2.1.toNat]? = some (1, o.2.2)
instance (S : Wst) (o : Ky) : Decidable (Thr S o) := by unfold Thr; infer_instance
def godP (k a : Int) : Prop := (k = 1 ∧ 0 ≤ a ∧ a ≤ 65535) ∨ (k = 2 ∧ 1 ≤ a ∧ a ≤ 65536) ∨ (k = 3 ∧ 1 ≤ a ∧ a ≤ 1048576)
instance (k a : Int) : Decidable (godP k a) := by unfold godP; infer_instance
def grwE (S : Wst) (k a : Int) : Int := if k = 2 ∧ 1048576 < used S.B + a then 4 else if k = 3 ∧ 1099511627776 - a < S.now then 17 else if fre (S.tab k) = none then 4 else 0
def valO (S : Wst) (k a : Int) : Int := if k = 3 then S.now + a else a
def acqE (S : Wst) (k a : Int) : Int := if ¬ godP k a then 2 else if grwE S k a ≠ 0 then grwE S k a else if S.q.headD 1 = 2 then 15 else if S.q.headD 1 = 3 then 14 else 0
def acqO (S : Wst) (k a : Int) : Ky := if acqE S k a = 0 then nam k (S.tab k) else (0, 0, 0)
def acqS (S : Wst) (k a : Int) : Wst := if ¬ godP k a ∨ grwE S k a ≠ 0 then S else if acqE S k a = 0 then ({ S with q := S.q.tail } : Wst).put k (grw (S.tab k) (valO S k a)) else { S with q := S.q.tail }
def relE (S : Wst) (o : Ky) (y : Int) : Int := if ¬ KGood o ∨ y < 1 ∨ 3 < y then 2 else if ¬ Thr S o then 5 else if 10000 ≤ S.T.length then 4 else 0
def relA (S : Wst) (o : Ky) (y : Int) : Int := if relE S o y = 0 then S.q.headD 1 else 0
def relS (S : Wst) (o : Ky) (y : Int) : Wst := if relE S o y ≠ 0 then S else if S.q.headD 1 = 1 then ({ S with q := S.q.tail, T := S.T ++ [⟨S.now, o, y, S.q.headD 1⟩] } : Wst).put o.1 (giv (S.tab o.1) o) else { S with q := S.q.tail, T := S.T ++ [⟨S.now, o, y, S.q.headD 1⟩] }
def tckE (S : Wst) (t : Int) : Int := if t < 1 ∨ 1048576 < t then 2 else if 1099511627776 < S.now + t then 17 else 0
def tckS (S : Wst) (t : Int) : Wst := if tckE S t = 0 then { S with now := S.now + t } else S
def aswE (S : Wst) (l : List UInt8) : Int := addE S.q l
def aswS (S : Wst) (l : List UInt8) : Wst := { S with q := addL S.q l }
end Go.Proofs.YtehlamblpekmkaaGreatDoor

/-
  What holds of a world, and that every call keeps it. No program in sight.
-/
namespace Go.Proofs.YtehlamblpekmkaaGreatDoor
set_option maxHeartbeats 4000000
def Sok (A : List Sl2) : Prop := ∀ s ∈ A, 0 ≤ s.1 ∧ s.1 ≤ 2 ∧ 1 ≤ s.2 ∧ s.2 ≤ 4294967295
def Bnd (X : Xs) : Prop := ∀ x ∈ X, x.1 = 1 → 0 ≤ x.2.2 ∧ x.2.2 ≤ 65536
structure WOk (S : Wst) : Prop where
  fl : S.F.length = 64
  bl : S.B.length = 64
  dl : S.D.length = 64
  fk : Sok (As S.F)
  bk : Sok (As S.B)
  dk : Sok (As S.D)
  bb : Bnd S.B
  qb : ∀ a ∈ S.q, 1 ≤ a ∧ a ≤ 3
  qn : S.q.length ≤ 2000
  nl : 0 ≤ S.now
  nh : S.now ≤ 1099511627776
  ta : ∀ a ∈ S.T, a.at_ ≤ S.now
  tp : ∀ a ∈ S.T, attP a
  tn : S.T.length ≤ 10000
section
variable {X : Xs} {S : Wst}
theorem slk_set {q : Nat} {y : Fl} (h : Sok (As X)) (hy : 0 ≤ y.1 ∧ y.1 ≤ 2 ∧ 1 ≤ y.2.1 ∧ y.2.1 ≤ 4294967295) : Sok (As (X.set q y)) := by
  rw [as_set]
  intro s hs
  rcases List.mem_or_eq_of_mem_set hs with h1 | rfl
  · exact h s h1
  · exact hy
theorem slk_rep {n : Nat} {g : Int} (h : 1 ≤ g ∧ g ≤ 4294967295) : Sok (As (List.replicate n (0, g, 0))) := by
  intro s hs
  unfold As at hs
  rw [List.map_replicate] at hs
  rw [List.eq_of_mem_replicate hs]
  exact ⟨by show (0 : Int) ≤ 0; decide, by show (0 : Int) ≤ 2; decide, h.1, h.2⟩
theorem sht_ok {z : Int} (h : 1 ≤ z ∧ z ≤ 4294967295) : 0 ≤ (shut z).1 ∧ (shut z).1 ≤ 2 ∧ 1 ≤ (shut z).2.1 ∧ (shut z).2.1 ≤ 4294967295 := by
  unfold shut
  split
  · exact ⟨by show (0 : Int) ≤ 0; decide, by show (0 : Int) ≤ 2; decide, by show 1 ≤ z + 1; omega, by show z + 1 ≤ 4294967295; omega⟩
  · exact ⟨by show (0 : Int) ≤ 2; decide, by show (2 : Int) ≤ 2; decide, h.1, h.2⟩
theorem as_at {i : Nat} {s : Sl2} (h : (As X)[i]? = some s) : ∃ v, X[i]? = some (s.1, s.2, v) := by
  unfold As at h
  rw [List.getElem?_map, Option.map_eq_some_iff] at h
  obtain ⟨⟨a, b, c⟩, h2, h3⟩ := h
  subst h3
  exact ⟨c, h2⟩
theorem grw_len (X : Xs) (v : Int) : (grw X v).length = X.length := by
  unfold grw
  split
  · rfl
  · exact List.length_set
theorem giv_len (X : Xs) (o : Ky) : (giv X o).length = X.length := List.length_set
theorem grw_ok (h : Sok (As X)) (v : Int) : Sok (As (grw X v)) := by
  unfold grw
  split
  · exact h
  · rename_i i g hf
    obtain ⟨u, hu⟩ := fre_some hf
    have := h _ (List.mem_of_getElem? (as_get hu))
    exact slk_set h ⟨by show (0 : Int) ≤ 1; decide, by show (1 : Int) ≤ 2; decide, this.2.2.1, this.2.2.2⟩
theorem giv_ok (h : Sok (As X)) {o : Ky} (ho : (As X)[o.2.1.toNat]? = some (1, o.2.2)) : Sok (As (giv X o)) := by
  have := h _ (List.mem_of_getElem? ho)
  exact slk_set h (sht_ok ⟨this.2.2.1, this.2.2.2⟩)
theorem grw_bnd (h : Bnd X) {v : Int} (hv : 0 ≤ v ∧ v ≤ 65536) : Bnd (grw X v) := by
  unfold grw
  split
  · exact h
  · intro x hx h1
    rcases List.mem_or_eq_of_mem_set hx with hx | rfl
    · exact h x hx h1
    · exact hv
theorem giv_bnd (h : Bnd X) (o : Ky) : Bnd (giv X o) := fun x hx h1 => by
  rcases List.mem_or_eq_of_mem_set hx with hx | rfl
  · exact h x hx h1
  · exact absurd h1 (shut_st _)
theorem rep_bnd {n : Nat} {g : Int} : Bnd (List.replicate n (0, g, 0)) := fun x hx h1 => by
  rw [List.eq_of_mem_replicate hx] at h1
  exact absurd h1 (by show ¬ (0 : Int) = 1; decide)
theorem used_bd : ∀ {X : Xs}, Bnd X → 0 ≤ used X ∧ used X ≤ 65536 * (X.length : Int)
  | [], _ => ⟨Int.le_refl _, by show (0 : Int) ≤ _; simp⟩
  | x :: X, h => by
    obtain ⟨h1, h2⟩ := used_bd (X := X) fun y hy => h y (List.mem_cons_of_mem _ hy)
    have h3 := h x List.mem_cons_self
    unfold used at h1 h2 ⊢
    rw [List.map_cons, List.sum_cons, List.length_cons]
    by_cases hx : x.1 = 1
    · rw [if_pos hx]
      have := h3 hx
      omega
    · rw [if_neg hx]
      omega
theorem headD_bd {q : List Int} (h : ∀ a ∈ q, 1 ≤ a ∧ a ≤ 3) : 1 ≤ q.headD 1 ∧ q.headD 1 ≤ 3 := by
  cases q with
  | nil => decide
  | cons a q => exact h a List.mem_cons_self
theorem tail_bd {q : List Int} (h : ∀ a ∈ q, 1 ≤ a ∧ a ≤ 3) : ∀ a ∈ q.tail, 1 ≤ a ∧ a ≤ 3 := fun a ha => h a (List.mem_of_mem_tail ha)
theorem wok_new {g : Int} (h : 1 ≤ g ∧ g ≤ 4294967295) : WOk (wnew g) where
  fl := List.length_replicate
  bl := List.length_replicate
  dl := List.length_replicate
  fk := slk_rep h
  bk := slk_rep h
  dk := slk_rep h
  bb := rep_bnd
  qb a ha := by cases ha
  qn := Nat.zero_le _
  nl := Int.le_refl _
  nh := (by decide : (0 : Int) ≤ 1099511627776)
  ta a ha := by cases ha
  tp a ha := by cases ha
  tn := Nat.zero_le _
theorem wok_tl (h : WOk S) : WOk { S with q := S.q.tail } := { h with qb := tail_bd h.qb, qn := by show S.q.tail.length ≤ 2000; rw [List.length_tail]; have := h.qn; omega }
theorem godP_k {k a : Int} (h : godP k a) : k = 1 ∨ k = 2 ∨ k = 3 := by
  unfold godP at h
  omega
theorem put1 (S : Wst) (X : Xs) : S.put 1 X = { S with F := X } := rfl
theorem put2 (S : Wst) (X : Xs) : S.put 2 X = { S with B := X } := rfl
theorem put3 (S : Wst) (X : Xs) : S.put 3 X = { S with D := X } := rfl
theorem tab1 (S : Wst) : S.tab 1 = S.F := rfl
theorem tab2 (S : Wst) : S.tab 2 = S.B := rfl
theorem tab3 (S : Wst) : S.tab 3 = S.D := rfl
theorem wok_acq (h : WOk S) (k a : Int) : WOk (acqS S k a) := by
  unfold acqS
  split
  · exact h
  · rename_i hc
    split
    · have hg : godP k a := by
        rcases Classical.em (godP k a) with q | q
        · exact q
        · exact absurd (.inl q) hc
      have h1 := wok_tl h
      rcases godP_k hg with rfl | rfl | rfl
      · rw [put1, tab1]
        exact { h1 with fl := (grw_len _ _).trans h.fl, fk := grw_ok h.fk _ }
      · rw [put2, tab2]
        refine { h1 with bl := (grw_len _ _).trans h.bl, bk := grw_ok h.bk _, bb := grw_bnd h.bb ?_ }
        unfold valO
        rw [if_neg (by decide)]
        unfold godP at hg
        omega
      · rw [put3, tab3]
        exact { h1 with dl := (grw_len _ _).trans h.dl, dk := grw_ok h.dk _ }
    · exact wok_tl h
theorem rel_zero {o : Ky} {y : Int} (h : relE S o y = 0) : KGood o ∧ 1 ≤ y ∧ y ≤ 3 ∧ Thr S o ∧ S.T.length < 10000 := by
  unfold relE at h
  split at h
  · exact absurd h (by decide)
  · rename_i h1
    split at h
    · exact absurd h (by decide)
    · rename_i h2
      split at h
      · exact absurd h (by decide)
      · simp only [not_or, Decidable.not_not] at h1 h2
        exact ⟨h1.1, by omega, by omega, h2, by omega⟩
theorem kgood_k {o : Ky} (h : KGood o) : o.1 = 1 ∨ o.1 = 2 ∨ o.1 = 3 := by
  have := h.1
  have := h.2.1
  omega
theorem wok_add (h : WOk S) {a : At} (ha : a.at_ = S.now) (hp : attP a) (hn : S.T.length < 10000) : WOk { S with q := S.q.tail, T := S.T ++ [a] } :=
  { wok_tl h with
    ta := fun b hb => by
      rcases List.mem_append.1 hb with hb | hb
      · exact h.ta b hb
      · rw [List.mem_singleton.1 hb, ha]; exact Int.le_refl _
    tp := fun b hb => by
      rcases List.mem_append.1 hb with hb | hb
      · exact h.tp b hb
      · rw [List.mem_singleton.1 hb]; exact hp
    tn := by show (S.T ++ [a]).length ≤ 10000; rw [List.length_append]; exact hn }
theorem rel_att (h : WOk S) {o : Ky} {y : Int} (he : relE S o y = 0) : attP ⟨S.now, o, y, S.q.headD 1⟩ := by
  obtain ⟨h1, h2, h3, _, _⟩ := rel_zero he
  have := headD_bd h.qb
  exact ⟨h.nl, h.nh, kgood_iff.2 h1, h2, h3, this.1, this.2⟩
theorem wok_rel (h : WOk S) (o : Ky) (y : Int) : WOk (relS S o y) := by
  unfold relS
  split
  · exact h
  · rename_i hc
    have he : relE S o y = 0 := Decidable.not_not.1 hc
    obtain ⟨h1, h2, h3, h4, h5⟩ := rel_zero he
    have h6 := wok_add (a := ⟨S.now, o, y, S.q.headD 1⟩) h rfl (rel_att h he) h5
    split
    · obtain ⟨_, ht⟩ := h4
      obtain ⟨k, i, g⟩ := o
      rcases kgood_k h1 with hk | hk | hk <;> (have hk' : k = _ := hk; subst hk')
      · rw [put1, tab1]
        exact { h6 with fl := (giv_len _ _).trans h.fl, fk := giv_ok h.fk ht }
      · rw [put2, tab2]
        exact { h6 with bl := (giv_len _ _).trans h.bl, bk := giv_ok h.bk ht, bb := giv_bnd h.bb _ }
      · rw [put3, tab3]
        exact { h6 with dl := (giv_len _ _).trans h.dl, dk := giv_ok h.dk ht }
    · exact h6
theorem tck_zero {t : Int} (h : tckE S t = 0) : 1 ≤ t ∧ t ≤ 1048576 ∧ S.now + t ≤ 1099511627776 := by
  unfold tckE at h
  split at h
  · exact absurd h (by decide)
  · split at h
    · exact absurd h (by decide)
    · omega
theorem wok_tck (h : WOk S) (t : Int) : WOk (tckS S t) := by
  unfold tckS
  split
  · rename_i he
    have h0 := tck_zero he
    have := h.nl
    exact { h with nl := by show 0 ≤ S.now + t; omega, nh := h0.2.2, ta := fun a ha => by have := h.ta a ha; show _ ≤ S.now + t; omega }
  · exact h
theorem prs_bd {l : List UInt8} : ∀ a ∈ (prs l).1, 1 ≤ a ∧ a ≤ 3 := by
  unfold prs
  split
  · intro a ha; cases ha
  · split
    · intro a ha; cases ha
    · rename_i h2
      intro a ha
      obtain ⟨b, hb, rfl⟩ := List.mem_map.1 ha
      obtain ⟨i, hi⟩ := List.getElem?_of_mem hb
      have h3 := gl_at (l := l) (i := i) (by have := (List.getElem?_eq_some_iff.1 hi).1; omega) hi
      have := cd_bd b
      omega
theorem wok_asw (h : WOk S) (l : List UInt8) : WOk (aswS S l) := by
  unfold aswS
  refine { h with qb := ?_, qn := addL_len h.qn }
  show ∀ a ∈ addL S.q l, _
  unfold addL
  split
  · intro a ha
    rcases List.mem_append.1 ha with ha | ha
    · exact h.qb a ha
    · exact prs_bd a ha
  · exact h.qb
end
end Go.Proofs.YtehlamblpekmkaaGreatDoor

/-
  Pools and desks, as plain functions. No program in sight.
-/
namespace Go.Proofs.YtehlamblpekmkaaGreatDoor
set_option maxHeartbeats 4000000
def slI (X : Xs) (i : Nat) : Nat := ((inS 1 (As X) 0).getD i (0, 0)).1
def slG (X : Xs) (i : Nat) : Int := ((inS 1 (As X) 0).getD i (0, 0)).2
def vaA (X : Xs) (q : Nat) : Int := (X.getD q (0, 0, 0)).2.2
theorem sl_at {X : Xs} {i : Nat} (h : i < (inS 1 (As X) 0).length) : (As X)[slI X i]? = some (1, slG X i) := inS_get h
theorem sl_lt {X : Xs} {i : Nat} (h : i < (inS 1 (As X) 0).length) : slI X i < X.length := by
  have := (List.getElem?_eq_some_iff.1 (sl_at h)).1
  rwa [as_len] at this
theorem vals_at {X : Xs} {V : List Int} {q : Nat} {g v : Int} (hV : Vals X V) (h : (As X)[q]? = some (1, g)) (hv : V[q]? = some v) : v = vaA X q := by
  obtain ⟨u, hu⟩ := as_at h
  have h1 := hV.2 q g u hu
  rw [hv] at h1
  unfold vaA
  rw [getD_some hu]
  exact Option.some.inj h1
def useT (X : Xs) (i : Nat) : Int := ((inS 1 (As X) 0).take i).foldl (fun s r => s + vaA X r.1) 0
theorem useT_go {X : Xs} {i : Nat} (h : i < (inS 1 (As X) 0).length) : useT X (i + 1) = useT X i + vaA X (slI X i) := by
  unfold useT slI
  rw [List.take_add_one, List.getElem?_eq_getElem h, List.foldl_append, getD_some (List.getElem?_eq_getElem h)]
  rfl
theorem vaA_cons (x : Fl) (X : Xs) (q : Nat) : vaA (x :: X) (q + 1) = vaA X q := rfl
theorem use_all : ∀ (X Y : Xs) (k : Nat) (s : Int), (∀ q, vaA Y (k + q) = vaA X q) → (inS 1 (As X) k).foldl (fun s r => s + vaA Y r.1) s = s + used X
  | [], Y, k, s, _ => by simp [inS, As, used]
  | x :: X, Y, k, s, h => by
    have h1 := use_all X Y (k + 1)
    have h2 : ∀ q, vaA Y (k + 1 + q) = vaA X q := fun q => by
      have := h (q + 1)
      rw [vaA_cons] at this
      rw [← this]
      congr 1
      omega
    show (inS 1 (sl2 x :: As X) k).foldl _ s = _
    have h0 : vaA Y k = x.2.2 := h 0
    by_cases hx : x.1 = 1
    · have e : inS 1 (sl2 x :: As X) k = (k, x.2.1) :: inS 1 (As X) (k + 1) := by
        show (if (sl2 x).1 = 1 then _ else _) = _
        rw [if_pos (show (sl2 x).1 = 1 from hx)]
        rfl
      rw [e, List.foldl_cons, h1 _ h2, h0]
      unfold used
      rw [List.map_cons, List.sum_cons, if_pos hx]
      omega
    · have e : inS 1 (sl2 x :: As X) k = inS 1 (As X) (k + 1) := by
        show (if (sl2 x).1 = 1 then _ else _) = _
        rw [if_neg (show ¬ (sl2 x).1 = 1 from hx)]
      rw [e, h1 _ h2]
      unfold used
      rw [List.map_cons, List.sum_cons, if_neg hx]
      omega
theorem useT_all (X : Xs) : useT X (inS 1 (As X) 0).length = used X := by
  unfold useT
  rw [List.take_length, use_all X X 0 0 (fun q => by rw [Nat.zero_add])]
  omega
theorem vaA_bd {X : Xs} (h : Bnd X) {q : Nat} {g : Int} (hq : (As X)[q]? = some (1, g)) : 0 ≤ vaA X q ∧ vaA X q ≤ 65536 := by
  obtain ⟨u, hu⟩ := as_at hq
  unfold vaA
  rw [getD_some hu]
  exact h _ (List.mem_of_getElem? hu) rfl
theorem useT_bd {X : Xs} (h : Bnd X) : ∀ i : Nat, i ≤ (inS 1 (As X) 0).length → 0 ≤ useT X i ∧ useT X i ≤ 65536 * (i : Int)
  | 0, _ => ⟨Int.le_refl _, Int.le_refl _⟩
  | i + 1, hi => by
    have h1 := useT_bd h i (by omega)
    have h2 := vaA_bd h (sl_at (X := X) (i := i) (by omega))
    rw [useT_go (by omega)]
    omega
theorem allK_take {X : Xs} {k : Int} {i : Nat} (h : i < (inS 1 (As X) 0).length) : (allK k X).take i ++ [(k, (slI X i : Int), slG X i)] = (allK k X).take (i + 1) := by
  have h1 : (inS 1 (As X) 0)[i]? = some (slI X i, slG X i) := by
    unfold slI slG
    rw [List.getElem?_eq_getElem h, getD_some (List.getElem?_eq_getElem h)]
  have h2 : (allK k X)[i]? = some (k, (slI X i : Int), slG X i) := by
    unfold allK
    rw [List.getElem?_map, h1]
    rfl
  rw [List.take_add_one, h2]
  rfl
theorem allK_len (k : Int) (X : Xs) : (allK k X).length = (inS 1 (As X) 0).length := List.length_map _
def tkE (X : Xs) : Int := if fre X = none then 4 else 0
def pinE (X : Xs) (v : Int) : Int := if 1048576 < used X + v then 4 else tkE X
def pinX (X : Xs) (v : Int) : Xs := if pinE X v = 0 then grw X v else X
def pinO (X : Xs) (v : Int) : Ky := if pinE X v = 0 then nam 2 X else (0, 0, 0)
def gntE (X : Xs) (t now : Int) : Int := if 1099511627776 - t < now then 17 else tkE X
def gntX (X : Xs) (t now : Int) : Xs := if gntE X t now = 0 then grw X (now + t) else X
def gntO (X : Xs) (t now : Int) : Ky := if gntE X t now = 0 then nam 3 X else (0, 0, 0)
section
variable {X : Xs} {v t now : Int}
theorem take_full (h : (takeV (As X)).2.2 ≠ 0) : tkE X = 4 ∧ (takeV (As X)).2.2 = 4 ∧ takeA (As X) = As X := by
  rcases Nat.eq_zero_or_pos (inS 0 (As X) 0).length with h0 | h0
  · exact ⟨if_pos (fre_none.2 h0), by rw [(take_none h0).1], (take_none h0).2⟩
  · exact absurd (by rw [(take_some h0).1]) h
theorem take_free (h : (takeV (As X)).2.2 = 0) : tkE X = 0 ∧ ∃ i g u, fre X = some (i, g) ∧ X[i]? = some (0, g, u) ∧ (takeV (As X)).1 = (i : Int) ∧ (takeV (As X)).2.1 = g ∧ takeA (As X) = As (X.set i (1, g, v)) := by
  rcases Nat.eq_zero_or_pos (inS 0 (As X) 0).length with h0 | h0
  · rw [(take_none h0).1] at h
    exact absurd h (by decide)
  · have h1 := fre_pos h0
    obtain ⟨u, hu⟩ := fre_some h1
    refine ⟨if_neg (by rw [h1]; exact fun q => nomatch q), _, _, u, h1, hu, by rw [(take_some h0).1], by rw [(take_some h0).1], ?_⟩
    rw [(take_some h0).2, as_set]
theorem pin_much (h : 1048576 < used X + v) : pinE X v = 4 ∧ pinO X v = (0, 0, 0) ∧ pinX X v = X := by
  have e : pinE X v = 4 := if_pos h
  exact ⟨e, if_neg (by rw [e]; decide), if_neg (by rw [e]; decide)⟩
theorem pin_full (h : ¬ 1048576 < used X + v) (ht : tkE X = 4) : pinE X v = 4 ∧ pinO X v = (0, 0, 0) ∧ pinX X v = X := by
  have e : pinE X v = 4 := (if_neg h).trans ht
  exact ⟨e, if_neg (by rw [e]; decide), if_neg (by rw [e]; decide)⟩
theorem pin_ok {i : Nat} {g : Int} (h : ¬ 1048576 < used X + v) (hf : fre X = some (i, g)) : pinE X v = 0 ∧ pinO X v = (2, (i : Int), g) ∧ pinX X v = X.set i (1, g, v) := by
  have e : pinE X v = 0 := (if_neg h).trans (if_neg (by rw [hf]; exact fun q => nomatch q))
  refine ⟨e, (if_pos e).trans ?_, (if_pos e).trans ?_⟩
  · unfold nam; rw [hf]
  · unfold grw; rw [hf]
theorem gnt_over (h : 1099511627776 - t < now) : gntE X t now = 17 ∧ gntO X t now = (0, 0, 0) ∧ gntX X t now = X := by
  have e : gntE X t now = 17 := if_pos h
  exact ⟨e, if_neg (by rw [e]; decide), if_neg (by rw [e]; decide)⟩
theorem gnt_full (h : ¬ 1099511627776 - t < now) (ht : tkE X = 4) : gntE X t now = 4 ∧ gntO X t now = (0, 0, 0) ∧ gntX X t now = X := by
  have e : gntE X t now = 4 := (if_neg h).trans ht
  exact ⟨e, if_neg (by rw [e]; decide), if_neg (by rw [e]; decide)⟩
theorem gnt_ok {i : Nat} {g : Int} (h : ¬ 1099511627776 - t < now) (hf : fre X = some (i, g)) : gntE X t now = 0 ∧ gntO X t now = (3, (i : Int), g) ∧ gntX X t now = X.set i (1, g, now + t) := by
  have e : gntE X t now = 0 := (if_neg h).trans (if_neg (by rw [hf]; exact fun q => nomatch q))
  refine ⟨e, (if_pos e).trans ?_, (if_pos e).trans ?_⟩
  · unfold nam; rw [hf]
  · unfold grw; rw [hf]
theorem pl_set {V : List Int} {i : Nat} {g : Int} (h : X.length = 64 ∧ Bnd X ∧ Vals X V) (hi : i < 64) (hv : 0 ≤ v ∧ v ≤ 65536) : (X.set i (1, g, v)).length = 64 ∧ Bnd (X.set i (1, g, v)) ∧ Vals (X.set i (1, g, v)) (V.set i v) :=
  ⟨List.length_set.trans h.1, fun x hx h1 => by
    rcases List.mem_or_eq_of_mem_set hx with hx | rfl
    · exact h.2.1 x hx h1
    · exact hv, vals_open h.2.2 hi⟩
theorem dk_set {V : List Int} {i : Nat} {g : Int} (h : X.length = 64 ∧ Vals X V) (hi : i < 64) : (X.set i (1, g, v)).length = 64 ∧ Vals (X.set i (1, g, v)) (V.set i v) := ⟨List.length_set.trans h.1, vals_open h.2 hi⟩
theorem vals_off2 {V : List Int} {o : Ky} {q : Nat} {u : Int} (h : Vals X V) (hq : o.2.1 = (q : Int)) : Vals (giv X o) (V.set q u) := by
  have := vals_off o u h
  rwa [hq, Int.toNat_natCast] at this
theorem pl_giv {V : List Int} {o : Ky} {q : Nat} {u : Int} (h : X.length = 64 ∧ Bnd X ∧ Vals X V) (hq : o.2.1 = (q : Int)) : (giv X o).length = 64 ∧ Bnd (giv X o) ∧ Vals (giv X o) (V.set q u) := ⟨(giv_len X o).trans h.1, giv_bnd h.2.1 o, vals_off2 h.2.2 hq⟩
theorem dk_giv {V : List Int} {o : Ky} (h : X.length = 64 ∧ Vals X V) : (giv X o).length = 64 ∧ Vals (giv X o) V := ⟨(giv_len X o).trans h.1, vals_giv o h.2⟩
theorem as_rep (n : Nat) (g v : Int) : List.replicate n (0, g) = As (List.replicate n (0, g, v)) := by
  unfold As
  rw [List.map_replicate]
  rfl
theorem giveA_giv (X : Xs) (o : Ky) {q : Nat} (h : o.2.1 = (q : Int)) : giveA (As X) q o.2.2 = As (giv X o) := by
  unfold giv
  rw [h, Int.toNat_natCast]
  exact giveA_as X q o.2.2
end
theorem erase_len {α : Type} {L : List α} {k : Nat} {x : α} (h : L[k]? = some x) : (L.eraseIdx k).length + 1 = L.length := by
  have := (List.getElem?_eq_some_iff.1 h).1
  rw [List.length_eraseIdx, if_pos this]
  omega
theorem ky_eq {a : Ky} {x y z : Int} (h : a.1 = x ∧ a.2.1 = y ∧ a.2.2 = z) : a = (x, y, z) := by
  obtain ⟨a, b, c⟩ := a
  obtain ⟨rfl, rfl, rfl⟩ := h
  rfl
theorem ky_ne {a : Ky} {x y z : Int} (h : ¬ (a.1 = x ∧ a.2.1 = y ∧ a.2.2 = z)) : a ≠ (x, y, z) := fun e => h (by subst e; exact ⟨rfl, rfl, rfl⟩)
theorem tk_ne {L : List Ky} {i : Nat} {a o : Ky} (h : ∀ b ∈ L.take i, b ≠ o) (ha : L[i]? = some a) (hn : a ≠ o) : ∀ b ∈ L.take (i + 1), b ≠ o := fun b hb => by
  rw [List.take_add_one, ha] at hb
  rcases List.mem_append.1 hb with hb | hb
  · exact h b hb
  · rw [Option.toList_some, List.mem_singleton] at hb
    rw [hb]
    exact hn
theorem tk_not {L : List Ky} {i : Nat} {o : Ky} (h : ∀ b ∈ L.take i, b ≠ o) (hi : L.length ≤ i) : ¬ o ∈ L := fun ho => h o (by rw [List.take_of_length_le hi]; exact ho) rfl
theorem lget {V : List Int} {n : Nat} (h : V.length = n) : V = (List.range n).map fun i => V.getD i 0 := by
  apply List.ext_getElem?
  intro i
  rw [List.getElem?_map]
  rcases Nat.lt_or_ge i n with hi | hi
  · rw [List.getElem?_range hi, List.getElem?_eq_getElem (by omega)]
    show _ = some (V.getD i 0)
    rw [getD_some (List.getElem?_eq_getElem (by omega))]
  · rw [List.getElem?_eq_none (by omega), List.getElem?_eq_none (by rw [List.length_range]; exact hi)]
    rfl
theorem vlit {V : List Int} (h : V.length = 64) : fl eI V = [.int .i64 (V.getD 0 0), .int .i64 (V.getD 1 0), .int .i64 (V.getD 2 0), .int .i64 (V.getD 3 0), .int .i64 (V.getD 4 0), .int .i64 (V.getD 5 0), .int .i64 (V.getD 6 0), .int .i64 (V.getD 7 0), .int .i64 (V.getD 8 0), .int .i64 (V.getD 9 0), .int .i64 (V.getD 10 0), .int .i64 (V.getD 11 0), .int .i64 (V.getD 12 0), .int .i64 (V.getD 13 0), .int .i64 (V.getD 14 0), .int .i64 (V.getD 15 0), .int .i64 (V.getD 16 0), .int .i64 (V.getD 17 0), .int .i64 (V.getD 18 0), .int .i64 (V.getD 19 0), .int .i64 (V.getD 20 0), .int .i64 (V.getD 21 0), .int .i64 (V.getD 22 0), .int .i64 (V.getD 23 0), .int .i64 (V.getD 24 0), .int .i64 (V.getD 25 0), .int .i64 (V.getD 26 0), .int .i64 (V.getD 27 0), .int .i64 (V.getD 28 0), .int .i64 (V.getD 29 0), .int .i64 (V.getD 30 0), .int .i64 (V.getD 31 0), .int .i64 (V.getD 32 0), .int .i64 (V.getD 33 0), .int .i64 (V.getD 34 0), .int .i64 (V.getD 35 0), .int .i64 (V.getD 36 0), .int .i64 (V.getD 37 0), .int .i64 (V.getD 38 0), .int .i64 (V.getD 39 0), .int .i64 (V.getD 40 0), .int .i64 (V.getD 41 0), .int .i64 (V.getD 42 0), .int .i64 (V.getD 43 0), .int .i64 (V.getD 44 0), .int .i64 (V.getD 45 0), .int .i64 (V.getD 46 0), .int .i64 (V.getD 47 0), .int .i64 (V.getD 48 0), .int .i64 (V.getD 49 0), .int .i64 (V.getD 50 0), .int .i64 (V.getD 51 0), .int .i64 (V.getD 52 0), .int .i64 (V.getD 53 0), .int .i64 (V.getD 54 0), .int .i64 (V.getD 55 0), .int .i64 (V.getD 56 0), .int .i64 (V.getD 57 0), .int .i64 (V.getD 58 0), .int .i64 (V.getD 59 0), .int .i64 (V.getD 60 0), .int .i64 (V.getD 61 0), .int .i64 (V.getD 62 0), .int .i64 (V.getD 63 0)] := by
  have h1 : fl eI V = fl eI ((List.range 64).map fun i => V.getD i 0) := congrArg _ (lget h)
  exact h1.trans (by kernel_rfl)
end Go.Proofs.YtehlamblpekmkaaGreatDoor
