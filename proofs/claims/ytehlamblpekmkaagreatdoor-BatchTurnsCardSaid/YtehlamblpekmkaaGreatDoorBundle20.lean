/- Walks, printed by my generator P:../fds/gen0.py. -/
import Derived.Test.YtehlamblpekmkaaGreatDoorProg
import Derived.Test.YtehlamblpekmkaaGreatDoorFdsP
import Derived.Test.YtehlamblpekmkaaGreatDoorRn2
namespace Go.Proofs.YtehlamblpekmkaaGreatDoor
set_option maxHeartbeats 4000000
def tbl (n : Nat) (B : List Sl2) : List Value := .int .i64 (n : Int) :: fl eSl B
def SlOk (A : List Sl2) : Prop := ∀ s ∈ A, 0 ≤ s.1 ∧ s.1 ≤ 2 ∧ 1 ≤ s.2 ∧ s.2 ≤ 4294967295
def Tb (b n : Nat) (A : List Sl2) : Assn := fun h => ∃ T : List Sl2, (A.length = n ∧ 1 ≤ n ∧ n ≤ 256 ∧ SlOk A ∧ (A ++ T).length = 256) ∧ Cl b (tbl n (A ++ T)) 256 h
theorem tbl_len (n : Nat) (B : List Sl2) : (tbl n B).length = 1 + B.length * 2 := by rw [tbl, List.length_cons, fl_len eSl_ok]; omega
theorem tbl_st {n i : Nat} {B : List Sl2} {s : Sl2} (h : B[i]? = some s) : (tbl n B)[1 + i * 2]? = some (.int .i64 s.1) := by
  have := fl_get eSl_ok (j := 0) (v := .int .i64 s.1) h rfl
  rw [tbl, show 1 + i * 2 = (i * 2 + 0) + 1 from by omega, List.getElem?_cons_succ]
  exact this
theorem tbl_gen {n i : Nat} {B : List Sl2} {s : Sl2} (h : B[i]? = some s) : (tbl n B)[1 + i * 2 + 1]? = some (.int .u32 s.2) := by
  have := fl_get eSl_ok (j := 1) (v := .int .u32 s.2) h rfl
  rw [tbl, show 1 + i * 2 + 1 = (i * 2 + 1) + 1 from by omega, List.getElem?_cons_succ]
  exact this
theorem fl_put (a : Int) (z : Int) : ∀ (B : List Sl2) (i : Nat) (s : Sl2), B[i]? = some s →
    (fl eSl B).set (i * 2) (.int .i64 a) = fl eSl (B.set i (a, s.2)) ∧ (fl eSl B).set (i * 2 + 1) (.int .u32 z) = fl eSl (B.set i (s.1, z))
  | [], i, s, h => by simp at h
  | b :: B, 0, s, h => by
    simp only [List.getElem?_cons_zero, Option.some.injEq] at h
    subst h
    exact ⟨rfl, rfl⟩
  | b :: B, i + 1, s, h => by
    obtain ⟨h1, h2⟩ := fl_put a z B i s (by simpa using h)
    rw [List.set_cons_succ, List.set_cons_succ, fl, fl, fl, ← h1, ← h2, show (i + 1) * 2 = i * 2 + 2 from by omega]
    exact ⟨rfl, rfl⟩
theorem tbl_putS {n i : Nat} {B : List Sl2} {s : Sl2} (h : B[i]? = some s) (a : Int) : setL (tbl n B) [(1 + i * 2, .int .i64 a)] = tbl n (B.set i (a, s.2)) := by
  simp only [setL, tbl, show 1 + i * 2 = i * 2 + 1 from by omega, List.set_cons_succ]
  rw [(fl_put a 0 B i s h).1]
theorem tbl_putG {n i : Nat} {B : List Sl2} {s : Sl2} (h : B[i]? = some s) (z : Int) : setL (tbl n B) [(1 + i * 2 + 1, .int .u32 z)] = tbl n (B.set i (s.1, z)) := by
  simp only [setL, tbl, show 1 + i * 2 + 1 = (i * 2 + 1) + 1 from by omega, List.set_cons_succ]
  rw [(fl_put 0 z B i s h).2]
theorem tbl_put2 {n i : Nat} {B : List Sl2} {s : Sl2} (h : B[i]? = some s) (a z : Int) : setL (tbl n B) [(1 + i * 2, .int .i64 a), (1 + i * 2 + 1, .int .u32 z)] = tbl n (B.set i (a, z)) := by
  have h1 := tbl_putS (n := n) h a
  have h2 := tbl_putG (n := n) (B := B.set i (a, s.2)) (i := i) (s := (a, s.2)) (by rw [List.getElem?_set_self (List.getElem?_eq_some_iff.1 h).1]) z
  rw [List.set_set] at h2
  rw [← h2, ← h1]
  rfl
theorem app_set {A T : List Sl2} {i : Nat} (x : Sl2) (h : i < A.length) : (A ++ T).set i x = A.set i x ++ T := List.set_append_left _ _ h
theorem app_get {A T : List Sl2} {i : Nat} {s : Sl2} (h : A[i]? = some s) : (A ++ T)[i]? = some s := by rw [List.getElem?_append_left (List.getElem?_eq_some_iff.1 h).1]; exact h
theorem slOk_set {A : List Sl2} {i : Nat} {x : Sl2} (h : SlOk A) (hx : 0 ≤ x.1 ∧ x.1 ≤ 2 ∧ 1 ≤ x.2 ∧ x.2 ≤ 4294967295) : SlOk (A.set i x) := fun s hs => by
  rcases List.mem_or_eq_of_mem_set hs with h1 | h1
  · exact h s h1
  · rw [h1]; exact hx
section
variable {g w : World} {L : List Assn} {b n : Nat} {A : List Sl2}
theorem tb_open (h : sat g w (Tb b n A :: L)) : ∃ T : List Sl2, (A.length = n ∧ 1 ≤ n ∧ n ≤ 256 ∧ SlOk A ∧ (A ++ T).length = 256) ∧ sat g w (Cl b (tbl n (A ++ T)) 256 :: L) :=
  sat_open (X := List Sl2) (p := fun T => A.length = n ∧ 1 ≤ n ∧ n ≤ 256 ∧ SlOk A ∧ (A ++ T).length = 256) (B := fun T => Cl b (tbl n (A ++ T)) 256) h fun k hk => hk
theorem tb_close {T : List Sl2} (hp : A.length = n ∧ 1 ≤ n ∧ n ≤ 256 ∧ SlOk A ∧ (A ++ T).length = 256) (h : sat g w (Cl b (tbl n (A ++ T)) 256 :: L)) : sat g w (Tb b n A :: L) := sat_imp h fun _ hh => ⟨T, hp, hh⟩
end
theorem keyok : KeyOk Tryz.prog 72 := by
  have hu : Tryz.prog.underlying 72 = some _ := Tryz.underlying72
  refine ⟨fun a b w => ?_, fun a e w => ?_, ⟨_, Tryz.underlying72⟩⟩
  · obtain ⟨a0, a1, a2⟩ := a
    obtain ⟨c0, c1, c2⟩ := b
    show (Op.equalIn 10000 72 (.agg #[.int .i64 a0, .int .i64 a1, .int .u32 a2]) (.agg #[.int .i64 c0, .int .i64 c1, .int .u32 c2])).run Tryz.prog w = .ok (decide ((a0, a1, a2) = (c0, c1, c2))) w
    by_cases h0 : a0 = c0
    · by_cases h1 : a1 = c1
      · by_cases h2 : a2 = c2
        · subst h0; subst h1; subst h2; simp [go_sem]
        · subst h0; subst h1; simp [go_sem, h2]
      · subst h0; simp [go_sem, h1]
    · simp [go_sem, h0]
  · have h : ∀ d : Nat, (Instr.checkKey e (d + 1 + 1) 72 (kv a)).run Tryz.prog w = .ok () w := fun d => by
      simp [kv, Instr.checkKey, go_sem]
    exact h 9998
theorem tbl_stk {n i k : Nat} {B : List Sl2} {s : Sl2} (h : B[i]? = some s) (hk : k = 1 + i * 2) : (tbl n B)[k]? = some (.int .i64 s.1) := hk ▸ tbl_st h
theorem tbl_genk {n i k : Nat} {B : List Sl2} {s : Sl2} (h : B[i]? = some s) (hk : k = 1 + i * 2 + 1) : (tbl n B)[k]? = some (.int .u32 s.2) := hk ▸ tbl_gen h
theorem tbl_putSk {n i k : Nat} {A T : List Sl2} {s : Sl2} (h : A[i]? = some s) (a : Int) (hk : k = 1 + i * 2) : setL (tbl n (A ++ T)) [(k, .int .i64 a)] = tbl n (A.set i (a, s.2) ++ T) := by
  subst hk
  rw [tbl_putS (app_get h), app_set _ (List.getElem?_eq_some_iff.1 h).1]
theorem tbl_put2k {n i k k2 : Nat} {A T : List Sl2} {s : Sl2} (h : A[i]? = some s) (a z : Int) (hk : k = 1 + i * 2) (hk2 : k2 = 1 + i * 2 + 1) : setL (tbl n (A ++ T)) [(k, .int .i64 a), (k2, .int .u32 z)] = tbl n (A.set i (a, z) ++ T) := by
  subst hk
  subst hk2
  rw [tbl_put2 (app_get h), app_set _ (List.getElem?_eq_some_iff.1 h).1]
theorem tbl_one (n : Nat) (B : List Sl2) : ∀ v ∈ tbl n B, v.oneCell' = true := fun v hv => by
  rcases List.mem_cons.1 hv with rfl | hv
  · rfl
  · exact fl_one eSl_ok B v hv
theorem tb_bd {g w : World} {L : List Assn} {j b n : Nat} {A : List Sl2} (h : sat g w L) (hj : L[j]? = some (Tb b n A)) : A.length = n ∧ 1 ≤ n ∧ n ≤ 256 ∧ SlOk A := sat_use h hj fun _ ha _ => by
  obtain ⟨T, hp, _⟩ := ha
  exact ⟨hp.1, hp.2.1, hp.2.2.1, hp.2.2.2.1⟩
theorem new_put {n i k : Nat} {z : Int} (h : i < 256) (hk : k = 1 + i * 2 + 1) : setL (tbl n (List.replicate i (0, z) ++ List.replicate (256 - i) (0, 0))) [(k, .int .u32 z)] = tbl n (List.replicate (i + 1) (0, z) ++ List.replicate (256 - (i + 1)) (0, 0)) := by
  subst hk
  obtain ⟨h1, h2⟩ := rep_put ((0, z) : Sl2) ((0, 0) : Sl2) (0, z) i 256 h
  rw [tbl_putG h1 z, h2, rep_go]
theorem new_ok {n : Nat} {z : Int} (h1 : 1 ≤ n) (h2 : n ≤ 256) (h3 : 1 ≤ z) (h4 : z ≤ 4294967295) : (List.replicate n ((0, z) : Sl2)).length = n ∧ 1 ≤ n ∧ n ≤ 256 ∧ SlOk (List.replicate n (0, z)) ∧ (List.replicate n ((0, z) : Sl2) ++ List.replicate (256 - n) (0, 0)).length = 256 := by
  refine ⟨List.length_replicate, h1, h2, fun s hs => ?_, by rw [List.length_append, List.length_replicate, List.length_replicate]; omega⟩
  rw [List.eq_of_mem_replicate hs]
  exact ⟨by show (0 : Int) ≤ 0; decide, by show (0 : Int) ≤ 2; decide, h3, h4⟩
theorem slOk_give {A : List Sl2} {q : Nat} {z : Int} {x : Sl2} (h : SlOk A) (hx : A[q]? = some x) (hz : x.2 = z) : SlOk (giveA A q z) := by
  have := h x (List.mem_of_getElem? hx)
  unfold giveA
  split
  · exact slOk_set h ⟨by show (0 : Int) ≤ 0; decide, by show (0 : Int) ≤ 2; decide, by show 1 ≤ z + 1; omega, by show z + 1 ≤ 4294967295; omega⟩
  · exact slOk_set h ⟨by show (0 : Int) ≤ 2; decide, by show (2 : Int) ≤ 2; decide, by show 1 ≤ z; omega, by show z ≤ 4294967295; omega⟩
end Go.Proofs.YtehlamblpekmkaaGreatDoor

/- Walks, printed by my generator P:../fds/gen1.py. -/
namespace Go.Proofs.YtehlamblpekmkaaGreatDoor
set_option maxHeartbeats 4000000
theorem gcheck_ok (gn : Int) (hg1 : 1 ≤ gn) (hg : gn ≤ 4294967295) : HT Tryz.prog 97 [uV gn] [] (fun v K => v = iV 0 ∧ K = []) := by
 refine hiS Tryz.func97 Tryz.ntmps97 fun g w0 R h0 => go [.v 1 1 (oF (gn < 1)), .v 1 4 (oF (gn > 4294967295))] ?_
 exact en (iV 0) [] ⟨_, _, rfl, ⟨rfl, rfl⟩, h0⟩

theorem gcheck_no (gn : Int) (hg0 : gn ≤ 0) : HT Tryz.prog 97 [uV gn] [] (fun v K => v = iV 2 ∧ K = []) := by
 refine hiS Tryz.func97 Tryz.ntmps97 fun g w0 R h0 => go [.v 1 1 (oT (gn < 1))] ?_
 exact en (iV 2) [] ⟨_, _, rfl, ⟨rfl, rfl⟩, h0⟩

theorem gleft1_ht (b : Nat) (gn : Int) (hg0 : 0 ≤ gn) (hg : gn ≤ 4294967295) : HT Tryz.prog 295 [pV b] [Cl b [uV gn] 22] (fun v K => v = uV (-gn + 4294967295) ∧ K = [Cl b [uV gn] 22]) := by
 refine hiS Tryz.func295 Tryz.ntmps295 fun g w0 R h0 => go [rd 1 0 0 0 1 h0, .v 1 1 (oU (4294967295 - gn) (-gn + 4294967295))] ?_
 exact en (uV (-gn + 4294967295)) [] ⟨_, _, rfl, ⟨rfl, rfl⟩, h0⟩

theorem of_ok (b r : Nat) (gn : Int) (hg1 : 1 ≤ gn) (hg : gn ≤ 4294967295) : HT Tryz.prog 294 [.func (Fn.func 295) #[] #[pV b], .slice (some ⟨r, 0, none⟩) 1 1] [Cl b [uV gn] 22, Cl r [uV gn] 22] (fun v K => v = .tuple #[uV (-gn + 4294967295), iV 0] ∧ K = [Cl b [uV gn] 22, Cl r [uV gn] 22]) := by
 refine hiS Tryz.func294 Tryz.ntmps294 fun g w0 R h0 => go [.v 2 1 (oJ .i64 (1 : Int) 1)] <| unS 1 <| go [.s 4 0] <| lwP (pV r) (law_indexSl (x := (Operand.tmp 10)) (i := (Operand.tmp 12)) (b := r) (off := 0) (z := 0) (len := 1) (cap := 1) (by kernel_rfl) Tryz.underlying384 1 (by kernel_rfl) 0 (by kernel_rfl) (by kernel_rfl) (by omega) (by omega) 0 (by omega) _) <| go [rd 4 1 1 0 1 h0] <| cl0 Tryz.call97 (gcheck_ok gn (by omega) (by omega)) h0 fun _ h11 => go [] <| unN <| go [] <| up <| go [] <| cl1 Tryz.call295 (gleft1_ht b gn (by omega) (by omega)) h11 fun _ h13 => ?_
 refine go [] ?_
 exact en (.tuple #[uV (-gn + 4294967295), iV 0]) [] ⟨_, _, rfl, ⟨rfl, rfl⟩, h13⟩

theorem gleft_ok (gn : Int) (hg1 : 1 ≤ gn) (hg : gn ≤ 4294967295) : HT Tryz.prog 290 [uV gn] [] (fun v K => v = .tuple #[uV (-gn + 4294967295), iV 0] ∧ K = []) := by
 refine hiS Tryz.func290 Tryz.ntmps290 fun g w0 R h0 => go [] <| nP 22 [uV gn] h0 (fun r10 _ h12 => ?_)
 refine go [rd 1 1 0 0 1 h12] <| nG (fun q_ => .slice (some ⟨q_, 0, none⟩) 1 1) 22 [uV gn] h12 (fun r13 _ h15 => ⟨kd [], ?_⟩)
 refine cl2 Tryz.call294 (of_ok r10 r13 gn (by omega) (by omega)) (tk3 (sf2 (sf1 (sf2 h15)))) fun _ h18 => go [] ?_
 exact en (.tuple #[uV (-gn + 4294967295), iV 0]) [] ⟨_, _, rfl, ⟨rfl, rfl⟩, (tk1 (sf2 h18))⟩

theorem after_ok (gn : Int) (hg1 : 1 ≤ gn) (hg : gn < 4294967295) : HT Tryz.prog 283 [uV gn, .int .u64 1] [] (fun v K => v = .tuple #[uV (gn + 1), .bool true, iV 0] ∧ K = []) := by
 refine hiS Tryz.func283 Tryz.ntmps283 fun g w0 R h0 => go [] <| cl0 Tryz.call290 (gleft_ok gn (by omega) (by omega)) h0 fun _ h11 => go [.v 2 5 (oLr (-gn + 4294967295)), .v 2 6 (oF (1 > -gn + 4294967295)), .v 4 2 (oUr 1), .v 4 3 (oUr (gn + 1))] ?_
 exact en (.tuple #[uV (gn + 1), .bool true, iV 0]) [] ⟨_, _, rfl, ⟨rfl, rfl⟩, h11⟩

theorem after_no (gn : Int) (hg : gn = 4294967295) : HT Tryz.prog 283 [uV gn, .int .u64 1] [] (fun v K => v = .tuple #[uV 0, .bool false, iV 0] ∧ K = []) := by
 refine hiS Tryz.func283 Tryz.ntmps283 fun g w0 R h0 => go [] <| cl0 Tryz.call290 (gleft_ok gn (by omega) (by omega)) h0 fun _ h11 => go [.v 2 5 (oLr (-gn + 4294967295)), .v 2 6 (oT (1 > -gn + 4294967295))] ?_
 exact en (.tuple #[uV 0, .bool false, iV 0]) [] ⟨_, _, rfl, ⟨rfl, rfl⟩, h11⟩

theorem next_ok (gn : Int) (hg1 : 1 ≤ gn) (hg : gn < 4294967295) : HT Tryz.prog 249 [uV gn] [] (fun v K => v = .tuple #[uV (gn + 1), .bool true, iV 0] ∧ K = []) := by
 refine hiS Tryz.func249 Tryz.ntmps249 fun g w0 R h0 => go [] <| cl0 Tryz.call283 (after_ok gn (by omega) (by omega)) h0 fun _ h11 => go [] ?_
 exact en (.tuple #[uV (gn + 1), .bool true, iV 0]) [] ⟨_, _, rfl, ⟨rfl, rfl⟩, h11⟩

theorem next_no (gn : Int) (hg : gn = 4294967295) : HT Tryz.prog 249 [uV gn] [] (fun v K => v = .tuple #[uV 0, .bool false, iV 0] ∧ K = []) := by
 refine hiS Tryz.func249 Tryz.ntmps249 fun g w0 R h0 => go [] <| cl0 Tryz.call283 (after_no gn (by omega)) h0 fun _ h11 => go [] ?_
 exact en (.tuple #[uV 0, .bool false, iV 0]) [] ⟨_, _, rfl, ⟨rfl, rfl⟩, h11⟩

theorem ofouter_ht (x y z : Int) (hz0 : 0 ≤ z) (hz1 : z ≤ 4294967295) : HT Tryz.prog 240 [.agg #[iV x, iV y, uV z]] [] (fun v K => v = .agg #[iV x, iV y, iV z] ∧ K = []) := by
 refine hiS Tryz.func240 Tryz.ntmps240 fun g w0 R h0 => go [] <| nP 72 [iV x, iV y, uV z] h0 (fun _ _ h12 => ?_)
 refine nP 330 [iV 0, iV 0, iV 0] h12 (fun _ _ h15 => ?_)
 refine go [rd 1 1 1 0 1 h15, rd 1 3 1 1 1 h15, rd 1 5 1 2 1 h15, .v 1 6 (oIr z)] <| sP [(0, iV x), (1, iV y), (2, iV z)] [iV x, iV y, iV z] h15 fun _ h17 => go [] ?_
 exact en (.agg #[iV x, iV y, iV z]) [rd 0 0 0 0 3 h17] ⟨_, _, rfl, ⟨rfl, rfl⟩, (tk1 (sf2 h17))⟩

theorem dcheck_ok (x y z : Int) (hz0 : 0 ≤ z) (hz1 : z ≤ 4294967295) (ho : 1 ≤ x ∧ x ≤ 3 ∧ 0 ≤ y ∧ y ≤ 63 ∧ 1 ≤ z) : HT Tryz.prog 241 [.agg #[iV x, iV y, iV z], iV 64] [] (fun v K => v = iV 0 ∧ K = []) := by
 refine hiS Tryz.func241 Tryz.ntmps241 fun g w0 R h0 => go [] <| nP 330 [iV x, iV y, iV z] h0 (fun r10 _ h12 => ?_)
 refine go [.s 1 0] <| lwP (pV r10) (law_indexArr (x := (Operand.tmp 2)) (i := (Operand.const (iV 0))) (b := r10) (off := 0) (z := 0) (by kernel_rfl) Tryz.underlying330 1 (by kernel_rfl) 0 (by kernel_rfl) (by kernel_rfl) (by omega) (by omega) 0 (by omega) _) <| go [rd 1 1 0 0 1 h12, .v 1 2 (oF (x < 1)), .s 1 4] <| lwP (pV r10) (law_indexArr (x := (Operand.tmp 2)) (i := (Operand.const (iV 0))) (b := r10) (off := 0) (z := 0) (by kernel_rfl) Tryz.underlying330 1 (by kernel_rfl) 0 (by kernel_rfl) (by kernel_rfl) (by omega) (by omega) 0 (by omega) _) <| go [rd 1 5 0 0 1 h12, .v 1 6 (oF (x > 3)), .s 1 9] <| lwP (.pointer (some ⟨r10, 1, none⟩)) (law_indexArr (x := (Operand.tmp 2)) (i := (Operand.const (iV 1))) (b := r10) (off := 0) (z := 1) (by kernel_rfl) Tryz.underlying330 1 (by kernel_rfl) 1 (by kernel_rfl) (by kernel_rfl) (by omega) (by omega) 1 (by omega) _) <| go [rd 1 10 0 1 1 h12, .v 1 11 (oF (y < 0)), .s 1 14] <| lwP (.pointer (some ⟨r10, 1, none⟩)) (law_indexArr (x := (Operand.tmp 2)) (i := (Operand.const (iV 1))) (b := r10) (off := 0) (z := 1) (by kernel_rfl) Tryz.underlying330 1 (by kernel_rfl) 1 (by kernel_rfl) (by kernel_rfl) (by omega) (by omega) 1 (by omega) _) <| go [rd 1 15 0 1 1 h12, .v 1 17 (oF (y ≥ 64)), .s 3 0] <| lwP (.pointer (some ⟨r10, 2, none⟩)) (law_indexArr (x := (Operand.tmp 2)) (i := (Operand.const (iV 2))) (b := r10) (off := 0) (z := 2) (by kernel_rfl) Tryz.underlying330 1 (by kernel_rfl) 2 (by kernel_rfl) (by kernel_rfl) (by omega) (by omega) 2 (by omega) _) <| go [rd 3 1 0 2 1 h12, .v 3 2 (oUr z)] <| cl0 Tryz.call97 (gcheck_ok z (by omega) (by omega)) h12 fun _ h14 => go [] ?_
 exact en (iV 0) [] ⟨_, _, rfl, ⟨rfl, rfl⟩, (tk1 (sf1 h14))⟩

theorem dcheck_no (x y z : Int) (hz0 : 0 ≤ z) (hz1 : z ≤ 4294967295) (ho : ¬ (1 ≤ x ∧ x ≤ 3 ∧ 0 ≤ y ∧ y ≤ 63 ∧ 1 ≤ z)) : HT Tryz.prog 241 [.agg #[iV x, iV y, iV z], iV 64] [] (fun v K => v = iV 2 ∧ K = []) := by
 refine hiS Tryz.func241 Tryz.ntmps241 fun g w0 R h0 => go [] <| nP 330 [iV x, iV y, iV z] h0 (fun r10 _ h12 => ?_)
 refine go [.s 1 0] <| lwP (pV r10) (law_indexArr (x := (Operand.tmp 2)) (i := (Operand.const (iV 0))) (b := r10) (off := 0) (z := 0) (by kernel_rfl) Tryz.underlying330 1 (by kernel_rfl) 0 (by kernel_rfl) (by kernel_rfl) (by omega) (by omega) 0 (by omega) _) <| go [rd 1 1 0 0 1 h12, .s 1 2] ?_
 by_cases c13 : x < 1
 ·
  refine go [.v 1 2 (oT (x < 1))] ?_
  exact en (iV 2) [] ⟨_, _, rfl, ⟨rfl, rfl⟩, (tk1 (sf1 h12))⟩
 refine go [.v 1 2 (oF (x < 1)), .s 1 4] <| lwP (pV r10) (law_indexArr (x := (Operand.tmp 2)) (i := (Operand.const (iV 0))) (b := r10) (off := 0) (z := 0) (by kernel_rfl) Tryz.underlying330 1 (by kernel_rfl) 0 (by kernel_rfl) (by kernel_rfl) (by omega) (by omega) 0 (by omega) _) <| go [rd 1 5 0 0 1 h12, .s 1 6] ?_
 by_cases c15 : x > 3
 ·
  refine go [.v 1 6 (oT (x > 3))] ?_
  exact en (iV 2) [] ⟨_, _, rfl, ⟨rfl, rfl⟩, (tk1 (sf1 h12))⟩
 refine go [.v 1 6 (oF (x > 3)), .s 1 9] <| lwP (.pointer (some ⟨r10, 1, none⟩)) (law_indexArr (x := (Operand.tmp 2)) (i := (Operand.const (iV 1))) (b := r10) (off := 0) (z := 1) (by kernel_rfl) Tryz.underlying330 1 (by kernel_rfl) 1 (by kernel_rfl) (by kernel_rfl) (by omega) (by omega) 1 (by omega) _) <| go [rd 1 10 0 1 1 h12, .s 1 11] ?_
 by_cases c17 : y < 0
 ·
  refine go [.v 1 11 (oT (y < 0))] ?_
  exact en (iV 2) [] ⟨_, _, rfl, ⟨rfl, rfl⟩, (tk1 (sf1 h12))⟩
 refine go [.v 1 11 (oF (y < 0)), .s 1 14] <| lwP (.pointer (some ⟨r10, 1, none⟩)) (law_indexArr (x := (Operand.tmp 2)) (i := (Operand.const (iV 1))) (b := r10) (off := 0) (z := 1) (by kernel_rfl) Tryz.underlying330 1 (by kernel_rfl) 1 (by kernel_rfl) (by kernel_rfl) (by omega) (by omega) 1 (by omega) _) <| go [rd 1 15 0 1 1 h12, .s 1 17] ?_
 by_cases c19 : y ≥ 64
 ·
  refine go [.v 1 17 (oT (y ≥ 64))] ?_
  exact en (iV 2) [] ⟨_, _, rfl, ⟨rfl, rfl⟩, (tk1 (sf1 h12))⟩
 refine go [.v 1 17 (oF (y ≥ 64)), .s 3 0] <| lwP (.pointer (some ⟨r10, 2, none⟩)) (law_indexArr (x := (Operand.tmp 2)) (i := (Operand.const (iV 2))) (b := r10) (off := 0) (z := 2) (by kernel_rfl) Tryz.underlying330 1 (by kernel_rfl) 2 (by kernel_rfl) (by kernel_rfl) (by omega) (by omega) 2 (by omega) _) <| go [rd 3 1 0 2 1 h12, .v 3 2 (oUr z)] <| cl0 Tryz.call97 (gcheck_no z (by omega)) h12 fun _ h22 => go [] ?_
 exact en (iV 2) [] ⟨_, _, rfl, ⟨rfl, rfl⟩, (tk1 (sf1 h22))⟩

theorem couter_ok (x y z : Int) (hz0 : 0 ≤ z) (hz1 : z ≤ 4294967295) (ho : 1 ≤ x ∧ x ≤ 3 ∧ 0 ≤ y ∧ y ≤ 63 ∧ 1 ≤ z) : HT Tryz.prog 192 [.agg #[iV x, iV y, uV z]] [] (fun v K => v = iV 0 ∧ K = []) := by
 refine hiS Tryz.func192 Tryz.ntmps192 fun g w0 R h0 => go [] <| nP 72 [iV x, iV y, uV z] h0 (fun _ _ h12 => ?_)
 refine go [rd 1 0 0 0 3 h12] <| cl0 Tryz.call240 (ofouter_ht x y z (by omega) (by omega)) h12 fun _ h14 => cl0 Tryz.call241 (dcheck_ok x y z (by omega) (by omega) (by omega)) h14 fun _ h16 => go [] ?_
 exact en (iV 0) [] ⟨_, _, rfl, ⟨rfl, rfl⟩, (tk1 (sf1 h16))⟩

theorem couter_no (x y z : Int) (hz0 : 0 ≤ z) (hz1 : z ≤ 4294967295) (ho : ¬ (1 ≤ x ∧ x ≤ 3 ∧ 0 ≤ y ∧ y ≤ 63 ∧ 1 ≤ z)) : HT Tryz.prog 192 [.agg #[iV x, iV y, uV z]] [] (fun v K => v = iV 2 ∧ K = []) := by
 refine hiS Tryz.func192 Tryz.ntmps192 fun g w0 R h0 => go [] <| nP 72 [iV x, iV y, uV z] h0 (fun _ _ h12 => ?_)
 refine go [rd 1 0 0 0 3 h12] <| cl0 Tryz.call240 (ofouter_ht x y z (by omega) (by omega)) h12 fun _ h14 => ?_
 by_cases c15 : 1 ≤ x
 ·
  by_cases c16 : x ≤ 3
  ·
   by_cases c17 : 0 ≤ y
   ·
    by_cases c18 : y ≤ 63
    ·
     refine cl0 Tryz.call241 (dcheck_no x y z (by omega) (by omega) (by omega)) h14 fun _ h20 => go [] ?_
     exact en (iV 2) [] ⟨_, _, rfl, ⟨rfl, rfl⟩, (tk1 (sf1 h20))⟩
    refine cl0 Tryz.call241 (dcheck_no x y z (by omega) (by omega) (by omega)) h14 fun _ h23 => go [] ?_
    exact en (iV 2) [] ⟨_, _, rfl, ⟨rfl, rfl⟩, (tk1 (sf1 h23))⟩
   refine cl0 Tryz.call241 (dcheck_no x y z (by omega) (by omega) (by omega)) h14 fun _ h26 => go [] ?_
   exact en (iV 2) [] ⟨_, _, rfl, ⟨rfl, rfl⟩, (tk1 (sf1 h26))⟩
  refine cl0 Tryz.call241 (dcheck_no x y z (by omega) (by omega) (by omega)) h14 fun _ h29 => go [] ?_
  exact en (iV 2) [] ⟨_, _, rfl, ⟨rfl, rfl⟩, (tk1 (sf1 h29))⟩
 refine cl0 Tryz.call241 (dcheck_no x y z (by omega) (by omega) (by omega)) h14 fun _ h32 => go [] ?_
 exact en (iV 2) [] ⟨_, _, rfl, ⟨rfl, rfl⟩, (tk1 (sf1 h32))⟩

end Go.Proofs.YtehlamblpekmkaaGreatDoor

/- Walks, printed by my generator P:../fds/gen2.py. -/
namespace Go.Proofs.YtehlamblpekmkaaGreatDoor
set_option maxHeartbeats 4000000
theorem seq253_neq_t {n : Nat} {l : Fr} {o : Oper} {x y : Operand} (a0 : Int) (a1 : Int) (c0 : Int) (c1 : Int) (ho : o.op = .binOp .neq 253 x y 253) (hx : fe n l x = .agg #[.int .i64 a0, .int .u32 a1]) (hy : fe n l y = .agg #[.int .i64 c0, .int .u32 c1]) (h : a0 = c0 ∧ a1 = c1) (w : World) : (execOp (fe n l) o).run Tryz.prog w = .ok (.value (.bool false)) w := by
  obtain ⟨rfl, rfl⟩ := h
  simp [execOp, ho, hx, hy, go_sem]
theorem seq253_neq_f {n : Nat} {l : Fr} {o : Oper} {x y : Operand} (a0 : Int) (a1 : Int) (c0 : Int) (c1 : Int) (ho : o.op = .binOp .neq 253 x y 253) (hx : fe n l x = .agg #[.int .i64 a0, .int .u32 a1]) (hy : fe n l y = .agg #[.int .i64 c0, .int .u32 c1]) (h : ¬ (a0 = c0 ∧ a1 = c1)) (w : World) : (execOp (fe n l) o).run Tryz.prog w = .ok (.value (.bool true)) w := by
  by_cases h0 : a0 = c0
  · skip
    by_cases h1 : a1 = c1
    · exact absurd ⟨h0, h1⟩ h
    · simp [execOp, ho, hx, hy, go_sem, h0, h1]
  · simp [execOp, ho, hx, hy, go_sem, h0]
theorem svalid_ht (b n : Nat) (A : List Sl2) : HT Tryz.prog 228 [pV b] [Tb b n A] (fun v K => v = .bool true ∧ K = [Tb b n A]) := by
 refine hiS Tryz.func228 Tryz.ntmps228 fun g w0 R h0 => ?_
 obtain ⟨T10, hp11, h12⟩ := tb_open h0
 have hq13 := hp11.2.1; have hq14 := hp11.2.2.1; have hq15 := hp11.2.2.2.2
 refine go [rd 1 6 0 0 1 h12, .v 1 7 (oT ((n : Int) > 0))] ?_
 have h16 : sat g w0 [Tb b n A, R] := tb_close hp11 h12
 exact en (.bool true) [] ⟨_, _, rfl, ⟨rfl, rfl⟩, h16⟩

theorem svalid_cl (b n : Nat) (B : List Sl2) (hn : 1 ≤ n) : HT Tryz.prog 228 [pV b] [Cl b (tbl n B) 256] (fun v K => v = .bool true ∧ K = [Cl b (tbl n B) 256]) := by
 refine hiS Tryz.func228 Tryz.ntmps228 fun g w0 R h0 => go [rd 1 6 0 0 1 h0, .v 1 7 (oT ((n : Int) > 0))] ?_
 exact en (.bool true) [] ⟨_, _, rfl, ⟨rfl, rfl⟩, h0⟩

theorem check_range (b n : Nat) (A : List Sl2) (i gn : Int) (hi : i < 0 ∨ (n : Int) ≤ i) : HT Tryz.prog 248 [pV b, .agg #[iV i, uV gn]] [Tb b n A] (fun v K => v = iV 3 ∧ K = [Tb b n A]) := by
 refine hiS Tryz.func248 Tryz.ntmps248 fun g w0 R h0 => ?_
 obtain ⟨T10, hp11, h12⟩ := tb_open h0
 have hq13 := hp11.2.1; have hq14 := hp11.2.2.1; have hq15 := hp11.2.2.2.2
 refine go [] <| nP 148 [iV i, uV gn] h12 (fun r16 _ h18 => ?_)
 have h19 := tk3 (sf2 (sf1 (sf2 h18)))
 refine go [] <| cl1 Tryz.call228 (svalid_cl b n _ (by omega)) h19 fun _ h21 => go [] <| dw (fls [0, 1, 2, 3, 4, 5, 6, 7, 8, 9, 10, 11, 12] Tr.nil) h21 fun w22 h23 => go [rd 3 1 1 0 1 h23, .s 3 2] ?_
 by_cases c24 : i < 0
 ·
  refine go [.v 3 2 (oT (i < 0))] ?_
  have h25 : sat g w22 [Tb b n A, Cl r16 [iV i, uV gn] 148, R] := tb_close hp11 h23
  exact en (iV 3) [] ⟨_, _, rfl, ⟨rfl, rfl⟩, (tk2 (sf1 (sf2 h25)))⟩
 refine go [.v 3 2 (oF (i < 0)), rd 3 5 1 0 1 h23, rd 3 9 0 0 1 h23, .v 3 10 (oT (i ≥ (n : Int)))] ?_
 have h27 : sat g w22 [Tb b n A, Cl r16 [iV i, uV gn] 148, R] := tb_close hp11 h23
 exact en (iV 3) [] ⟨_, _, rfl, ⟨rfl, rfl⟩, (tk2 (sf1 (sf2 h27)))⟩

theorem check_ok (b n : Nat) (A : List Sl2) (q : Nat) (x : Sl2) (hx : A[q]? = some x) (i gn : Int) (hc : i = (q : Int) ∧ x.1 = 1 ∧ x.2 = gn) : HT Tryz.prog 248 [pV b, .agg #[iV i, uV gn]] [Tb b n A] (fun v K => v = iV 0 ∧ K = [Tb b n A]) := by
 refine hiS Tryz.func248 Tryz.ntmps248 fun g w0 R h0 => ?_
 obtain ⟨T10, hp11, h12⟩ := tb_open h0
 have hq13 := hp11.2.1; have hq14 := hp11.2.2.1; have hq15 := hp11.2.2.2.2
 have hx_ := hp11.2.2.2.1 x (List.mem_of_getElem? hx)
 have hq_ : q < n := by have h_ := (List.getElem?_eq_some_iff.1 hx).1; rw [hp11.1] at h_; exact h_
 refine go [] <| nP 148 [iV i, uV gn] h12 (fun r16 _ h18 => ?_)
 have h19 := tk3 (sf2 (sf1 (sf2 h18)))
 refine go [] <| cl1 Tryz.call228 (svalid_cl b n _ (by omega)) h19 fun _ h21 => go [] <| dw (fls [0, 1, 2, 3, 4, 5, 6, 7, 8, 9, 10, 11, 12] Tr.nil) h21 fun _ h23 => go [rd 3 1 1 0 1 h23, .v 3 2 (oF (i < 0)), rd 3 5 1 0 1 h23, rd 3 9 0 0 1 h23, .v 3 10 (oF (i ≥ (n : Int)))] <| dw (fls [0, 1, 2, 3, 4, 5, 6, 7, 8, 9, 10, 11] Tr.nil) h23 fun w24 h25 => go [rd 5 2 1 0 1 h25, .s 5 5] <| lw (.pointer (some ⟨b, q * 2 + 1, none⟩)) (fun _ => law_indexArr (x := (Operand.tmp 27)) (i := (Operand.tmp 25)) (b := b) (off := 1) (z := i) (by kernel_rfl) Tryz.underlying254 2 (by kernel_rfl) q (by kernel_rfl) (by kernel_rfl) (by omega) (by omega) (q * 2 + 1) (by omega) _) <| go [.r 5 6 b (q * 2 + 1) [iV x.1, uV x.2] ⟨sat_cell h25 0 rfl (tbl_stk (app_get hx) (by omega)), sat_cell h25 0 rfl (tbl_genk (app_get hx) (by omega)), trivial⟩, rd 5 8 1 1 1 h25, .s 5 10] <| lw (.bool false) (fun _ => seq253_neq_t (x := (Operand.tmp 29)) (y := (Operand.tmp 32)) x.1 x.2 1 gn (by kernel_rfl) (by kernel_rfl) (by kernel_rfl) ⟨(by omega), (by omega)⟩ _) <| go [] ?_
 have h26 : sat g w24 [Tb b n A, Cl r16 [iV i, uV gn] 148, R] := tb_close hp11 h25
 exact en (iV 0) [] ⟨_, _, rfl, ⟨rfl, rfl⟩, (tk2 (sf1 (sf2 h26)))⟩

theorem check_stale (b n : Nat) (A : List Sl2) (q : Nat) (x : Sl2) (hx : A[q]? = some x) (i gn : Int) (hc : i = (q : Int) ∧ ¬ (x.1 = 1 ∧ x.2 = gn)) : HT Tryz.prog 248 [pV b, .agg #[iV i, uV gn]] [Tb b n A] (fun v K => v = iV 7 ∧ K = [Tb b n A]) := by
 refine hiS Tryz.func248 Tryz.ntmps248 fun g w0 R h0 => ?_
 obtain ⟨T10, hp11, h12⟩ := tb_open h0
 have hq13 := hp11.2.1; have hq14 := hp11.2.2.1; have hq15 := hp11.2.2.2.2
 have hx_ := hp11.2.2.2.1 x (List.mem_of_getElem? hx)
 have hq_ : q < n := by have h_ := (List.getElem?_eq_some_iff.1 hx).1; rw [hp11.1] at h_; exact h_
 refine go [] <| nP 148 [iV i, uV gn] h12 (fun r16 _ h18 => ?_)
 have h19 := tk3 (sf2 (sf1 (sf2 h18)))
 refine go [] <| cl1 Tryz.call228 (svalid_cl b n _ (by omega)) h19 fun _ h21 => go [] <| dw (fls [0, 1, 2, 3, 4, 5, 6, 7, 8, 9, 10, 11, 12] Tr.nil) h21 fun _ h23 => go [rd 3 1 1 0 1 h23, .v 3 2 (oF (i < 0)), rd 3 5 1 0 1 h23, rd 3 9 0 0 1 h23, .v 3 10 (oF (i ≥ (n : Int)))] <| dw (fls [0, 1, 2, 3, 4, 5, 6, 7, 8, 9, 10, 11] Tr.nil) h23 fun w24 h25 => go [rd 5 2 1 0 1 h25, .s 5 5] <| lw (.pointer (some ⟨b, q * 2 + 1, none⟩)) (fun _ => law_indexArr (x := (Operand.tmp 27)) (i := (Operand.tmp 25)) (b := b) (off := 1) (z := i) (by kernel_rfl) Tryz.underlying254 2 (by kernel_rfl) q (by kernel_rfl) (by kernel_rfl) (by omega) (by omega) (q * 2 + 1) (by omega) _) <| go [.r 5 6 b (q * 2 + 1) [iV x.1, uV x.2] ⟨sat_cell h25 0 rfl (tbl_stk (app_get hx) (by omega)), sat_cell h25 0 rfl (tbl_genk (app_get hx) (by omega)), trivial⟩, rd 5 8 1 1 1 h25, .s 5 10] ?_
 by_cases c26 : x.1 = 1
 ·
  refine lw (.bool true) (fun _ => seq253_neq_f (x := (Operand.tmp 29)) (y := (Operand.tmp 32)) x.1 x.2 1 gn (by kernel_rfl) (by kernel_rfl) (by kernel_rfl) (by omega) _) <| go [] ?_
  have h27 : sat g w24 [Tb b n A, Cl r16 [iV i, uV gn] 148, R] := tb_close hp11 h25
  exact en (iV 7) [] ⟨_, _, rfl, ⟨rfl, rfl⟩, (tk2 (sf1 (sf2 h27)))⟩
 refine lw (.bool true) (fun _ => seq253_neq_f (x := (Operand.tmp 29)) (y := (Operand.tmp 32)) x.1 x.2 1 gn (by kernel_rfl) (by kernel_rfl) (by kernel_rfl) (by omega) _) <| go [] ?_
 have h29 : sat g w24 [Tb b n A, Cl r16 [iV i, uV gn] 148, R] := tb_close hp11 h25
 exact en (iV 7) [] ⟨_, _, rfl, ⟨rfl, rfl⟩, (tk2 (sf1 (sf2 h29)))⟩

end Go.Proofs.YtehlamblpekmkaaGreatDoor

/- Walks, printed by my generator P:../fds/gen3.py. -/
namespace Go.Proofs.YtehlamblpekmkaaGreatDoor
set_option maxHeartbeats 4000000
theorem in_ht (b : Nat) (q : Int) : HT Tryz.prog 258 [pV b, iV q] [] (fun v K => ∃ c d, v = .func (Fn.func 286) #[] #[pV c, pV d] ∧ K = [Cl c [pV b] 31, Cl d [iV q] 3]) := by
 refine hiS Tryz.func258 Tryz.ntmps258 fun g w0 R h0 => go [] <| nP 31 [pV b] h0 (fun r10 _ h12 => ?_)
 refine nP 3 [iV q] h12 (fun r13 _ h15 => ?_)
 refine go [] ?_
 exact en (.func (Fn.func 286) #[] #[pV r10, pV r13]) [] ⟨_, _, rfl, ⟨r10, r13, rfl, rfl⟩, (tk3 (sf2 (sf1 (sf2 h15))))⟩

theorem in_it (c d b n : Nat) (q : Int) (A : List Sl2) (hn1 : 1 ≤ n) (hn2 : n ≤ 256) : IT Tryz.prog 286 [Value.pointer (some ⟨c, 0, none⟩), Value.pointer (some ⟨d, 0, none⟩)] (((inS q A 0).length)) ((fun i => [Value.int IntKind.i64 ((((inS q A 0).getD i (0, 0)).1 : Nat) : Int), Value.int IntKind.u32 ((inS q A 0).getD i (0, 0)).2])) [Cl c [Value.pointer (some ⟨b, 0, none⟩)] 31, Cl d [Value.int IntKind.i64 q] 3, Tb b n A] := by
 refine it_in 36 (fun k_ => ([(0, .func (Fn.yield k_) #[] #[]), (1, pV c), (2, pV d)] : Fr)) Tryz.func286 (by kernel_rfl) Tryz.ntmps286 rfl (fun _ => rfl) ?_
 intro g w0 R k_ J_ E_ hY h0
 have h1 : sat g w0 [J_ 0, Cl c [pV b] 31, Cl d [iV q] 3, Tb b n A, R] := h0
 change WP _ _ (CA Tryz.f286 []) _ (mk 36 (([(0, .func (Fn.yield k_) #[] #[]), (1, pV c), (2, pV d)] : Fr))) _
 refine ySq ?_
 refine ySq ?_
 refine yPl [0, 1, 2] ?_
 refine yBb [1, 2] [(6, pV b)] [e2 0 [pV b]] [(0, ⟨c, 0, none⟩, pV b)] [] trivial (kC (sat_cell h1 1 rfl rfl) nC) ?_
 have h2 := tk5 (sf4 (sf3 (sf3 (sf3 (sf4 h1)))))
 refine yA ?_
 refine yCl 7 Tryz.call228 (svalid_ht b n A) h2 ?_
 rintro v K w3 (⟨rfl, rfl⟩) h4
 refine ⟨_, rfl, ?_⟩
 have h5 := ap1 h4
 refine yB0 [] [2] [(8, .bool false)] (.mk ?_)
 refine yK [(0, .func (Fn.yield k_) #[] #[]), (1, pV c), (2, pV d), (8, .bool false)] fun lr6 => ?_
 refine yCf ?_
 refine ySk ?_
 refine ySq ?_
 obtain ⟨T7, hp8, h9⟩ := tb_open h5
 have hq10 := hp8.2.1; have hq11 := hp8.2.2.1; have hq12 := hp8.2.2.2.2
 have hAl := hp8.1
 refine gi_drw (id := 1) (ops := RA Tryz.f286 [1, 0]) (Tr.fl 0 (Tr.fl 1 (Tr.fl 2 (Tr.fl 3 (Tr.fl 4 (Tr.fl 5 (Tr.fl 6 (Tr.fl 7 (Tr.fl 8 (Tr.fl 9 Tr.nil)))))))))) (by kernel_rfl) (by kernel_rfl) (by kernel_rfl) (by kernel_rfl) (by kernel_rfl) (fun _ _ d _ _ h => by cases d <;> exact h) h9 ?_
 intro w13 h14
 refine yD _ [(15, iV (n : Int)), (14, pV b), (13, pV b), (12, pV b), (11, .pointer (some ⟨b, 1, none⟩)), (10, pV b), (9, pV b)] [e2 0 [pV b], e0 1, e0 2, e2 3 [pV b], e0 4, e0 5, e2 6 [iV (n : Int)]] [(6, ⟨b, 0, none⟩, iV (n : Int)), (3, ⟨c, 0, none⟩, pV b), (0, ⟨c, 0, none⟩, pV b)] [] trivial (kC (sat_cell h14 0 rfl rfl) (kC (sat_cell h14 2 rfl rfl) (kC (sat_cell h14 2 rfl rfl) nC))) ?_
 refine draw_law (i := 7) 16 (.slice (some ⟨b, 1, none⟩) n 256) [] (by kernel_rfl) (fun _ _ => law_sliceArr (o := opA (RA Tryz.f286 [1, 0]) 7) (x := (Operand.tmp 11)) (lo := none) (hi := (some (Operand.tmp 15))) (b := b) (off := 1) (by kernel_rfl) Tryz.underlying254 2 (by kernel_rfl) 0 (n : Int) 0 n (by kernel_rfl) rfl (show fe _ _ (Operand.tmp 15) = _ from by kernel_rfl) (by omega) (by omega) (by omega) (by omega) 1 (by split <;> omega) n 256 (by omega) (by omega) _) (by intro q hq; cases hq) ?_
 refine yD _ [(18, iV 0), (17, iV (n : Int))] [e0 8, e0 9] [] [] trivial nC ?_
 have h15 : sat g w13 [Tb b n A, J_ 0, Cl c [pV b] 31, Cl d [iV q] 3, R] := tb_close hp8 h14
 refine yK [(0, .func (Fn.yield k_) #[] #[]), (2, pV d), (16, .slice (some ⟨b, 1, none⟩) n 256), (17, iV (n : Int)), (18, iV 0)] fun lr16 => ?_
 refine yBk 0 ?_
 have h17 := tk5 (sf4 (sf4 (sf4 (sf1 (sf4 h15)))))
 refine gi_lp (x := CA Tryz.f286 [1, 1, 0, 0]) (by kernel_rfl) (fun mz_ a w => ∃ i : Nat, ∃ lr : Fr, mz_ = n - i ∧ (i ≤ n) ∧ a = mk 36 (([(0, .func (Fn.yield k_) #[] #[]), (2, pV d), (16, .slice (some ⟨b, 1, none⟩) n 256), (17, iV (n : Int)), (18, iV (i : Int))] : Fr) ++ lr) ∧ sat g w [J_ ((cnt q A i)), Cl c [pV b] 31, Cl d [iV q] 3, Tb b n A, R]) (n - 0) ⟨0, _, rfl, (Nat.zero_le _), (mk_live [(0, .func (Fn.yield k_) #[] #[]), (2, pV d), (16, .slice (some ⟨b, 1, none⟩) n 256), (17, iV (n : Int)), (18, iV (0 : Int))] ⟨rfl, rfl, rfl, rfl, (ov_int (by omega)), trivial⟩), h17⟩ ?_
 rintro m19 a20 w21 ⟨i, lr18, rfl, hi, rfl, h22⟩
 refine ySq ?_
 refine yPl [0] ?_
 by_cases c23 : (i : Int) < (n : Int)
 ·
  refine yBb [] [(19, .bool true)] [e1 0 (.bool true)] [] [(.bool (decide ((i : Int) < (n : Int))), .bool true)] ⟨(ov_t (by omega)), trivial⟩ nC (.mk ?_)
  refine yK [(0, .func (Fn.yield k_) #[] #[]), (2, pV d), (16, .slice (some ⟨b, 1, none⟩) n 256), (17, iV (n : Int)), (18, iV (i : Int)), (19, .bool true)] fun lr24 => ?_
  refine ySq ?_
  refine yCt ?_
  refine ySk ?_
  refine ySq ?_
  refine yBk 1 ?_
  refine ySq ?_
  have h25 := tk5 (sf4 (sf3 (sf3 (sf3 (sf4 h22)))))
  obtain ⟨T26, hp27, h28⟩ := tb_open h25
  have hq29 := hp27.2.1; have hq30 := hp27.2.2.1; have hq31 := hp27.2.2.2.2
  refine yPl [0, 1, 2, 3, 4, 5] ?_
  refine yB0 [1, 2, 3, 4, 5] [0] [(20, iV (i : Int))] ?_
  refine plain_law (i := 1) 21 (.pointer (some ⟨b, i * 2 + 1, none⟩)) (by kernel_rfl) (law_indexSl (o := opA (RA Tryz.f286 [1, 1, 0, 0, 1, 1, 0, 0, 0]) 1) (x := (Operand.tmp 16)) (i := (Operand.tmp 18)) (b := b) (off := 1) (z := (i : Int)) (len := n) (cap := 256) (by kernel_rfl) Tryz.underlying345 2 (by kernel_rfl) i (by kernel_rfl) (by kernel_rfl) (by omega) (by omega) (i * 2 + 1) (by omega) _) ?_
  obtain ⟨x32, hx33⟩ : ∃ x : Sl2, A[i]? = some x := ⟨_, List.getElem?_eq_getElem (by rw [hp27.1]; omega)⟩
  have hb34 := hp27.2.2.2.1 x32 (List.mem_of_getElem? hx33)
  refine yBb [3, 4, 5] [(22, .agg #[iV x32.1, uV x32.2])] [e2 2 [iV x32.1, uV x32.2]] [(2, ⟨b, i * 2 + 1, none⟩, iV x32.1), (2, ⟨b, i * 2 + 2, none⟩, uV x32.2)] [] trivial (kC (sat_cell h28 0 rfl (tbl_stk (app_get hx33) (by omega))) (kC (sat_cell h28 0 rfl (tbl_genk (app_get hx33) (by omega))) nC)) ?_
  refine yA ?_
  refine yNp 5 253 [iV 0, uV 0] h28 fun r35 w36 h37 => ?_
  refine yB0 [5] [4] [(4, iV (i : Int))] ?_
  refine yA ?_
  refine yS [(0, iV x32.1), (1, uV x32.2)] [iV x32.1, uV x32.2] h37 fun w38 h39 => ?_
  refine PO.mk ?_
  have h40 := tk6 (sf5 (sf4 (sf5 (sf5 (sf5 (sf5 h39))))))
  have h41 : sat g w38 [Tb b n A, Cl r35 [iV x32.1, uV x32.2] 253, J_ ((cnt q A i)), Cl c [pV b] 31, Cl d [iV q] 3, R] := tb_close hp27 h40
  refine yK [(0, .func (Fn.yield k_) #[] #[]), (2, pV d), (4, iV (i : Int)), (5, pV r35), (16, .slice (some ⟨b, 1, none⟩) n 256), (17, iV (n : Int)), (18, iV (i : Int))] fun lr42 => ?_
  refine ySq ?_
  refine gi_ply (id := 4) (ops := RA Tryz.f286 [1, 1, 0, 0, 1, 1, 0, 0, 1, 0]) [0, 1, 2, 3, 4, 5, 6, 7, 8] [9, 10, 11] (by kernel_rfl) (by kernel_rfl) (by kernel_rfl) ?_
  refine yBb [3, 4, 5, 6, 7, 8] [(25, iV q), (24, iV x32.1), (23, pV r35)] [e0 0, e2 1 [iV x32.1], e2 2 [iV q]] [(2, ⟨d, 0, none⟩, iV q), (1, ⟨r35, 0, none⟩, iV x32.1)] [] trivial (kC (sat_cell h41 4 rfl rfl) (kC (sat_cell h41 1 rfl rfl) nC)) ?_
  by_cases c43 : x32.1 = q
  ·
   refine yBb [] [(31, uV x32.2), (30, .pointer (some ⟨r35, 1, none⟩)), (29, iV (i : Int)), (28, .func (Fn.yield k_) #[] #[]), (27, .bool true), (26, .bool true)] [e1 3 (.bool true), e0 4, e0 5, e0 6, e0 7, e2 8 [uV x32.2]] [(8, ⟨r35, 1, none⟩, uV x32.2)] [(.bool (x32.1 == q), .bool true)] ⟨(ov_et (by omega)), trivial⟩ (kC (sat_cell h41 1 rfl rfl) nC) (.mk ?_)
   have h44 := tk6 (sf5 (sf5 (sf5 (sf2 (sf2 (sf5 h41))))))
   change YP _ (RA Tryz.f286 [1, 1, 0, 0, 1, 1, 0, 0, 1, 0]) _ [9, 10, 11] (mk 36 (([(31, uV x32.2), (30, .pointer (some ⟨r35, 1, none⟩)), (29, iV (i : Int)), (28, .func (Fn.yield k_) #[] #[]), (27, .bool true), (26, .bool true), (25, iV q), (24, iV x32.1), (23, pV r35), (0, .func (Fn.yield k_) #[] #[]), (2, pV d), (4, iV (i : Int)), (5, pV r35), (16, .slice (some ⟨b, 1, none⟩) n 256), (17, iV (n : Int)), (18, iV (i : Int))] : Fr) ++ lr42)) _
   refine yp_yield (d := some 32) (k := k_) (args := [Value.int IntKind.i64 (i : Int), Value.int IntKind.u32 x32.2]) (xa := ((fun i => [Value.int IntKind.i64 ((((inS q A 0).getD i (0, 0)).1 : Nat) : Int), Value.int IntKind.u32 ((inS q A 0).getD i (0, 0)).2])) ((cnt q A i))) (S1 := fun w => sat g w [J_ ((cnt q A i) + 1), Cl c [Value.pointer (some ⟨b, 0, none⟩)] 31, Cl d [Value.int IntKind.i64 q] 3, Tb b n A, Cl r35 [Value.int IntKind.i64 x32.1, Value.int IntKind.u32 x32.2] 253, R]) (S2 := fun w => sat g w [E_ ((cnt q A i)), Cl r35 [Value.int IntKind.i64 x32.1, Value.int IntKind.u32 x32.2] 253, R]) (by kernel_rfl) (by kernel_rfl) (by kernel_rfl) ((by show [Value.int IntKind.i64 ((((inS q A 0).getD ((cnt q A i)) (0, 0)).1 : Nat) : Int), Value.int IntKind.u32 ((inS q A 0).getD ((cnt q A i)) (0, 0)).2] = _; rw [getD_some (inS_at hx33 (by omega))])) (hY ((cnt q A i)) ((List.getElem?_eq_some_iff.1 (inS_at (q := q) hx33 (by omega))).1) _ [Cl r35 [Value.int IntKind.i64 x32.1, Value.int IntKind.u32 x32.2] 253, R] h44) ?_ ?_
   ·
    intro w45 h46
    refine ⟨_, rfl, ?_⟩
    have h47 : sat g w45 [J_ ((cnt q A i) + 1), Cl c [pV b] 31, Cl d [iV q] 3, Tb b n A, Cl r35 [iV x32.1, uV x32.2] 253, R] := h46
    have hlt48 := ((List.getElem?_eq_some_iff.1 (inS_at (q := q) hx33 (by omega))).1 : (cnt q A i) < ((inS q A 0).length))
    refine yB0 [] [10, 11] [(34, .bool false), (33, .bool false)] (.mk ?_)
    refine yK [(0, .func (Fn.yield k_) #[] #[]), (2, pV d), (16, .slice (some ⟨b, 1, none⟩) n 256), (17, iV (n : Int)), (18, iV (i : Int)), (34, .bool false)] fun lr49 => ?_
    refine yCf ?_
    refine ySk ?_
    refine yPl [0, 1] ?_
    refine yBb [] [(18, iV ((i : Int) + 1)), (35, iV ((i : Int) + 1))] [e1 0 (iV ((i : Int) + 1)), e0 1] [] [(iV (IntKind.wrap .i64 ((i : Int) + 1)), iV ((i : Int) + 1))] ⟨(ov_i64 (by omega) (by omega) (by omega)), trivial⟩ nC (.mk ?_)
    have h50 : sat g w45 [J_ ((cnt q A (i + 1))), Cl c [pV b] 31, Cl d [iV q] 3, Tb b n A, Cl r35 [iV x32.1, uV x32.2] 253, R] := (show (cnt q A i) + 1 = (cnt q A (i + 1)) from (cnt_go hx33 (by omega)).symm) ▸ h47
    have h51 := tk6 (sf5 (sf5 (sf5 (sf5 (sf5 (sf4 h50))))))
    have h52 := tk5 h51
    change ∃ n', n' < _ ∧ _
    refine ⟨(n - (i + 1)), by omega, (i + 1), _, rfl, (by omega), (mk_live [(0, .func (Fn.yield k_) #[] #[]), (2, pV d), (16, .slice (some ⟨b, 1, none⟩) n 256), (17, iV (n : Int)), (18, iV ((((i + 1) : Nat) : Int)))] ⟨rfl, rfl, rfl, rfl, (ov_int (by omega)), trivial⟩), h52⟩
   ·
    intro w53 h54
    refine ⟨_, rfl, ?_⟩
    have h55 : sat g w53 [E_ ((cnt q A i)), Cl r35 [iV x32.1, uV x32.2] 253, R] := h54
    have hlt56 := ((List.getElem?_eq_some_iff.1 (inS_at (q := q) hx33 (by omega))).1 : (cnt q A i) < ((inS q A 0).length))
    refine yB0 [] [10, 11] [(34, .bool true), (33, .bool true)] (.mk ?_)
    refine yK [(0, .func (Fn.yield k_) #[] #[]), (2, pV d), (16, .slice (some ⟨b, 1, none⟩) n 256), (17, iV (n : Int)), (18, iV (i : Int)), (34, .bool true)] fun lr57 => ?_
    refine yCt ?_
    refine yRt ?_
    repeat (first | simp only [Exit.inBlock] | simp only [Exit.then])
    refine hi_out [] (.tuple #[]) [] (by kernel_rfl) (by intro q hq; cases hq) ⟨⟨_, rfl⟩, ?_⟩
    have h58 := tk3 (sf2 (sf2 (sf1 h55)))
    have h59 := tk2 h58
    exact .inr ⟨(cnt q A i), (by omega), h59⟩
  ·
   refine yBb [] [(31, undef), (30, undef), (29, undef), (28, undef), (27, .bool false), (26, .bool false)] [e1 3 (.bool false), e0 4, e0 5, e0 6, e0 7, e0 8] [] [(.bool (x32.1 == q), .bool false)] ⟨(ov_ef (by omega)), trivial⟩ nC (.mk ?_)
   refine yp_skip (by kernel_rfl) ?_
   refine plain_skip (by kernel_rfl : chkN (RA Tryz.f286 [1, 1, 0, 0, 1, 1, 0, 0, 1, 0]) 36 _ 9 = some (some 32)) rfl ?_
   refine yB0 [] [10, 11] [(34, .bool false), (33, undef)] (.mk ?_)
   refine yK [(0, .func (Fn.yield k_) #[] #[]), (2, pV d), (16, .slice (some ⟨b, 1, none⟩) n 256), (17, iV (n : Int)), (18, iV (i : Int)), (34, .bool false)] fun lr60 => ?_
   refine yCf ?_
   refine ySk ?_
   refine yPl [0, 1] ?_
   refine yBb [] [(18, iV ((i : Int) + 1)), (35, iV ((i : Int) + 1))] [e1 0 (iV ((i : Int) + 1)), e0 1] [] [(iV (IntKind.wrap .i64 ((i : Int) + 1)), iV ((i : Int) + 1))] ⟨(ov_i64 (by omega) (by omega) (by omega)), trivial⟩ nC (.mk ?_)
   have h61 := tk6 (sf5 (sf4 (sf4 (sf5 (sf5 (sf5 h41))))))
   have h62 : sat g w38 [J_ ((cnt q A (i + 1))), Tb b n A, Cl r35 [iV x32.1, uV x32.2] 253, Cl c [pV b] 31, Cl d [iV q] 3, R] := (show (cnt q A i) = (cnt q A (i + 1)) from (cnt_no hx33 (by omega)).symm) ▸ h61
   have h63 := tk6 (sf5 (sf5 (sf5 (sf3 (sf5 (sf2 h62))))))
   have h64 := tk5 h63
   change ∃ n', n' < _ ∧ _
   refine ⟨(n - (i + 1)), by omega, (i + 1), _, rfl, (by omega), (mk_live [(0, .func (Fn.yield k_) #[] #[]), (2, pV d), (16, .slice (some ⟨b, 1, none⟩) n 256), (17, iV (n : Int)), (18, iV ((((i + 1) : Nat) : Int)))] ⟨rfl, rfl, rfl, rfl, (ov_int (by omega)), trivial⟩), h64⟩
 ·
  refine yBb [] [(19, .bool false)] [e1 0 (.bool false)] [] [(.bool (decide ((i : Int) < (n : Int))), .bool false)] ⟨(ov_f (by omega)), trivial⟩ nC (.mk ?_)
  refine yK [(0, .func (Fn.yield k_) #[] #[]), (2, pV d), (16, .slice (some ⟨b, 1, none⟩) n 256), (17, iV (n : Int)), (18, iV (i : Int)), (19, .bool false)] fun lr65 => ?_
  refine ySq ?_
  refine yCf ?_
  refine yEx 0 ?_
  repeat (first | simp only [Exit.inBlock] | simp only [Exit.then])
  refine hi_outn [] (.tuple #[]) [] (by kernel_rfl) (by intro q hq; cases hq) ⟨⟨_, rfl⟩, ?_⟩
  have he_ : (cnt q A i) = ((inS q A 0).length) := (cnt_all q (by omega))
  exact .inl (he_ ▸ h22)

end Go.Proofs.YtehlamblpekmkaaGreatDoor

/- Walks, printed by my generator P:../fds/gen4.py. -/
namespace Go.Proofs.YtehlamblpekmkaaGreatDoor
set_option maxHeartbeats 4000000
theorem take_ht (b n : Nat) (A : List Sl2) : HT Tryz.prog 207 [Value.pointer (some ⟨b, 0, none⟩)] [Tb b n A] (fun v K => v = Value.tuple #[Value.agg #[Value.int .i64 (takeV A).1, Value.int .u32 (takeV A).2.1], Value.int .i64 (takeV A).2.2] ∧ K = [Tb b n (takeA A)]) := by
 refine hi_in 24 ([(0, pV b)] : Fr) Tryz.func207 (by kernel_rfl) Tryz.ntmps207 rfl rfl ?_
 intro g w0 R h0
 refine ySq ?_
 refine yPl [0, 1, 2] ?_
 refine yA ?_
 refine yNp 1 31 [pV b] h0 fun r1 w2 h3 => ?_
 refine yA ?_
 refine yNp 2 148 [iV 0, uV 0] h3 fun r4 w5 h6 => ?_
 refine yA ?_
 refine yNp 3 38 [iV 0] h6 fun r7 w8 h9 => ?_
 refine PO.mk ?_
 refine yK [(0, pV b), (1, pV r1), (2, pV r4), (3, pV r7)] fun lr10 => ?_
 refine ySq ?_
 refine ySq ?_
 refine yPl [0, 1, 2] ?_
 refine yBb [1, 2] [(6, pV b)] [e2 0 [pV b]] [(0, ⟨r1, 0, none⟩, pV b)] [] trivial (kC (sat_cell h9 2 rfl rfl) nC) ?_
 have h11 := tk5 (sf4 (sf3 (sf3 (sf3 (sf4 h9)))))
 refine yA ?_
 refine yCl 7 Tryz.call228 (svalid_ht b n A) h11 ?_
 rintro v K w12 (⟨rfl, rfl⟩) h13
 refine ⟨_, rfl, ?_⟩
 have h14 := ap1 h13
 refine yB0 [] [2] [(8, .bool false)] (.mk ?_)
 refine yK [(0, pV b), (1, pV r1), (2, pV r4), (3, pV r7), (8, .bool false)] fun lr15 => ?_
 refine yCf ?_
 refine ySk ?_
 refine ySq ?_
 refine ySq ?_
 refine yPl [0, 1] ?_
 refine yBb [1] [(10, pV b)] [e2 0 [pV b]] [(0, ⟨r1, 0, none⟩, pV b)] [] trivial (kC (sat_cell h14 3 rfl rfl) nC) ?_
 refine yA ?_
 refine yCl 11 Tryz.call258 (in_ht b 0) h14 ?_
 rintro v K w18 (⟨b16, b17, rfl, rfl⟩) h19
 refine ⟨_, rfl, ?_⟩
 have h20 := ap2 h19
 refine PO.mk ?_
 refine yK [(0, pV b), (1, pV r1), (2, pV r4), (3, pV r7), (8, .bool false), (11, .func (Fn.func 286) #[] #[pV b16, pV b17])] fun lr21 => ?_
 refine yBk 0 ?_
 have hb22 := tb_bd (j := 2) h20 rfl
 have hb23 := hb22.2.1; have hb24 := hb22.2.2.1
 have h25 := tk7 (sf6 (sf5 (sf4 (sf3 (sf3 (sf3 (sf6 h20)))))))
 refine gi_rf (x := (Operand.tmp 11)) (ps := #[12, 13]) (asg := CA Tryz.f207 [1, 1, 0, 1, 0, 1]) (bd := CA Tryz.f207 [1, 1, 0, 1, 0, 0]) (gf := 286) (cap := [pV b16, pV b17]) (N := ((inS 0 A 0).length)) (xs := fun i => [iV (((((inS 0 A 0).getD i (0, 0)).1 : Nat) : Int)), uV (((inS 0 A 0).getD i (0, 0)).2)]) (At := [Cl b16 [pV b] 31, Cl b17 [iV 0] 3, Tb b n A]) (K0 := [Cl r1 [pV b] 31, Cl r4 [iV 0, uV 0] 148, Cl r7 [iV 0] 38]) (L := [R]) (fun i => [(13, uV (((inS 0 A 0).getD i (0, 0)).2)), (12, iV (((((inS 0 A 0).getD i (0, 0)).1 : Nat) : Int)))] ++ (([(0, pV b), (1, pV r1), (2, pV r4), (3, pV r7), (8, .bool false), (11, .func (Fn.func 286) #[] #[pV b16, pV b17])] : Fr) ++ lr21)) (fun i => ([(5, uV (((inS 0 A 0).getD i (0, 0)).2)), (4, iV (((((inS 0 A 0).getD i (0, 0)).1 : Nat) : Int))), (13, uV (((inS 0 A 0).getD i (0, 0)).2)), (12, iV (((((inS 0 A 0).getD i (0, 0)).1 : Nat) : Int)))] : Fr) ++ (([(0, pV b), (1, pV r1), (2, pV r4), (3, pV r7), (8, .bool false), (11, .func (Fn.func 286) #[] #[pV b16, pV b17])] : Fr) ++ lr21)) (fun i K => (i = 0) ∧ K = [Cl r1 [pV b] 31, Cl r4 [iV 0, uV 0] 148, Cl r7 [iV 0] 38]) (fun c i K => (c = Code.ret ∧ (i = 0) ∧ K = [Cl r1 [pV b] 31, Cl r4 [iV (((((inS 0 A 0).getD i (0, 0)).1 : Nat) : Int)), uV (((inS 0 A 0).getD i (0, 0)).2)] 148, Cl r7 [iV 0] 38, Tb b n (A.set ((inS 0 A 0).getD i (0, 0)).1 (1, ((inS 0 A 0).getD i (0, 0)).2))])) (by kernel_rfl) (by kernel_rfl) Tryz.call286 (in_it b16 b17 b n 0 A (by omega) (by omega)) ⟨rfl, rfl⟩ h25 (fun _ _ => rfl) (fun _ _ => rf_frame2 rfl rfl) ?_ ?_ ?_ ?_
 ·
  intro i hi_ lp_ w26 K_ hk27
  change WP _ _ (CA Tryz.f207 [1, 1, 0, 1, 0, 1]) _ (mk 24 (([(13, uV (((inS 0 A 0).getD i (0, 0)).2)), (12, iV (((((inS 0 A 0).getD i (0, 0)).1 : Nat) : Int))), (0, pV b), (1, pV r1), (2, pV r4), (3, pV r7), (8, .bool false), (11, .func (Fn.func 286) #[] #[pV b16, pV b17])] : Fr) ++ lr21)) _
  refine ySq ?_
  refine yPl [0] ?_
  refine yB0 [] [0] [(4, iV (((((inS 0 A 0).getD i (0, 0)).1 : Nat) : Int)))] (.mk ?_)
  refine yPl [0] ?_
  refine yB0 [] [0] [(5, uV (((inS 0 A 0).getD i (0, 0)).2))] (.mk ?_)
  exact hk27
 ·
  rintro i hi30 lp_ w28 K_ G ⟨hz0, rfl⟩ h29
  have h31 : sat g w28 [Cl r1 [pV b] 31, Cl r4 [iV 0, uV 0] 148, Cl r7 [iV 0] 38, Cl b16 [pV b] 31, Cl b17 [iV 0] 3, Tb b n A, G] := h29
  change WP _ _ (CA Tryz.f207 [1, 1, 0, 1, 0, 0]) _ (mk 24 (([(5, uV (((inS 0 A 0).getD i (0, 0)).2)), (4, iV (((((inS 0 A 0).getD i (0, 0)).1 : Nat) : Int))), (13, uV (((inS 0 A 0).getD i (0, 0)).2)), (12, iV (((((inS 0 A 0).getD i (0, 0)).1 : Nat) : Int))), (0, pV b), (1, pV r1), (2, pV r4), (3, pV r7), (8, .bool false), (11, .func (Fn.func 286) #[] #[pV b16, pV b17])] : Fr) ++ lr21)) _
  obtain ⟨x0, hx0, hx1, hx2⟩ : ∃ x : Sl2, A[((inS 0 A 0).getD i (0, 0)).1]? = some x ∧ x.1 = 0 ∧ x.2 = ((inS 0 A 0).getD i (0, 0)).2 := ⟨_, inS_get hi30, rfl, rfl⟩
  have hlt_ : ((inS 0 A 0).getD i (0, 0)).1 < n := by have h_ := (List.getElem?_eq_some_iff.1 hx0).1; rw [hb22.1] at h_; exact h_
  refine yBk 1 ?_
  refine ySq ?_
  have h32 := tk7 (sf6 (sf5 (sf5 (sf5 (sf5 (sf5 (sf6 h31)))))))
  obtain ⟨T33, hp34, h35⟩ := tb_open h32
  have hq36 := hp34.2.1; have hq37 := hp34.2.2.1; have hq38 := hp34.2.2.2.2
  refine yPl [0, 1, 2, 3, 4, 5, 6] ?_
  refine yBb [4, 5, 6] [(17, .pointer (some ⟨b, 1, none⟩)), (16, pV b), (15, iV (((((inS 0 A 0).getD i (0, 0)).1 : Nat) : Int))), (14, pV b)] [e2 0 [pV b], e0 1, e0 2, e0 3] [(0, ⟨r1, 0, none⟩, pV b)] [] trivial (kC (sat_cell h35 1 rfl rfl) nC) ?_
  refine plain_law (i := 4) 18 (.pointer (some ⟨b, (((inS 0 A 0).getD i (0, 0)).1) * 2 + 1, none⟩)) (by kernel_rfl) (law_indexArr (o := opA (RA Tryz.f207 [1, 1, 0, 1, 0, 0, 0, 0]) 4) (x := (Operand.tmp 17)) (i := (Operand.tmp 15)) (b := b) (off := 1) (z := (((((inS 0 A 0).getD i (0, 0)).1 : Nat) : Int))) (by kernel_rfl) Tryz.underlying254 2 (by kernel_rfl) ((((inS 0 A 0).getD i (0, 0)).1)) (by kernel_rfl) (by kernel_rfl) (by omega) (by omega) ((((inS 0 A 0).getD i (0, 0)).1) * 2 + 1) (by omega) _) ?_
  refine yB0 [6] [5] [(19, .pointer (some ⟨b, (((inS 0 A 0).getD i (0, 0)).1) * 2 + 1, none⟩))] ?_
  refine yA ?_
  refine an_store [((((inS 0 A 0).getD i (0, 0)).1) * 2 + 1, iV 1)] (cs' := (tbl n ((A.set ((((inS 0 A 0).getD i (0, 0)).1)) (1, x0.2)) ++ T33))) (by kernel_rfl) (by kernel_rfl) (allq ⟨⟨by rw [tbl_len]; omega, rfl⟩, trivial⟩) (tbl_putSk hx0 1 (by omega)) h35 ?_
  intro w39 h40
  refine PO.mk ?_
  have h41 : sat g w39 [Tb b n (A.set ((((inS 0 A 0).getD i (0, 0)).1)) (1, x0.2)), Cl r1 [pV b] 31, Cl r4 [iV 0, uV 0] 148, Cl r7 [iV 0] 38, Cl b16 [pV b] 31, Cl b17 [iV 0] 3, G] := tb_close ⟨by simp only [List.length_set]; exact hp34.1, hp34.2.1, hp34.2.2.1, (slOk_set hp34.2.2.2.1 (by have hk_ := hp34.2.2.2.1 _ (List.mem_of_getElem? hx0); omega)), by have h_ := hp34.2.2.2.2; simpa using h_⟩ h40
  refine yK [(0, pV b), (1, pV r1), (2, pV r4), (3, pV r7), (4, iV (((((inS 0 A 0).getD i (0, 0)).1 : Nat) : Int))), (5, uV (((inS 0 A 0).getD i (0, 0)).2)), (8, .bool false), (11, .func (Fn.func 286) #[] #[pV b16, pV b17]), (12, iV (((((inS 0 A 0).getD i (0, 0)).1 : Nat) : Int))), (13, uV (((inS 0 A 0).getD i (0, 0)).2))] fun lr42 => ?_
  refine ySq ?_
  refine yPl [0, 1, 2, 3, 4] ?_
  refine yB0 [3, 4] [0, 1, 2] [(22, .agg #[iV (((((inS 0 A 0).getD i (0, 0)).1 : Nat) : Int)), uV (((inS 0 A 0).getD i (0, 0)).2)]), (21, uV (((inS 0 A 0).getD i (0, 0)).2)), (20, iV (((((inS 0 A 0).getD i (0, 0)).1 : Nat) : Int)))] ?_
  have h43 := tk7 (sf6 (sf5 (sf5 (sf6 (sf6 (sf6 (sf6 h41)))))))
  refine yA ?_
  refine yS [(0, iV (((((inS 0 A 0).getD i (0, 0)).1 : Nat) : Int))), (1, uV (((inS 0 A 0).getD i (0, 0)).2))] [iV (((((inS 0 A 0).getD i (0, 0)).1 : Nat) : Int)), uV (((inS 0 A 0).getD i (0, 0)).2)] h43 fun w44 h45 => ?_
  have h46 := tk7 (sf6 (sf5 (sf5 (sf5 (sf6 (sf6 (sf6 h45)))))))
  refine yA ?_
  refine yS [(0, iV 0)] [iV 0] h46 fun w47 h48 => ?_
  refine PO.mk ?_
  refine yK [(0, pV b), (1, pV r1), (2, pV r4), (3, pV r7), (4, iV (((((inS 0 A 0).getD i (0, 0)).1 : Nat) : Int))), (5, uV (((inS 0 A 0).getD i (0, 0)).2)), (8, .bool false), (11, .func (Fn.func 286) #[] #[pV b16, pV b17]), (12, iV (((((inS 0 A 0).getD i (0, 0)).1 : Nat) : Int))), (13, uV (((inS 0 A 0).getD i (0, 0)).2))] fun lr49 => ?_
  refine yRt ?_
  repeat (first | simp only [Exit.inBlock] | simp only [Exit.then])
  have h50 := tk7 (sf6 (sf5 (sf5 (sf6 (sf6 (sf6 (sf6 h48)))))))
  have h51 : sat g w47 [Tb b n (A.set ((inS 0 A 0).getD i (0, 0)).1 (1, ((inS 0 A 0).getD i (0, 0)).2)), Cl r7 [iV 0] 38, Cl r4 [iV (((((inS 0 A 0).getD i (0, 0)).1 : Nat) : Int)), uV (((inS 0 A 0).getD i (0, 0)).2)] 148, Cl r1 [pV b] 31, Cl b16 [pV b] 31, Cl b17 [iV 0] 3, G] := (show (1, x0.2) = ((1, ((inS 0 A 0).getD i (0, 0)).2) : Sl2) from by rw [hx2]) ▸ h50
  have h52 := tk7 (sf6 (sf5 (sf4 (sf3 (sf6 (sf5 (sf5 h51)))))))
  have h53 := tk5 h52
  exact ⟨_, ⟨rfl, hz0, rfl⟩, h53⟩
 ·
  rintro D54 w55 K_ ⟨hz0, rfl⟩ h56
  have h57 : sat g w55 [pt D54 (Obj.deferred (some [])), Cl r1 [pV b] 31, Cl r4 [iV 0, uV 0] 148, Cl r7 [iV 0] 38, Cl b16 [pV b] 31, Cl b17 [iV 0] 3, Tb b n A, R] := h56
  refine yK [(2, pV r4), (3, pV r7)] fun lr58 => ?_
  refine ySq ?_
  refine yPl [0, 1, 2] ?_
  refine yB0 [1, 2] [0] [(23, .agg #[iV 0, uV 0])] ?_
  have h59 := tk8 (sf7 (sf6 (sf6 (sf7 (sf7 (sf7 (sf7 (sf7 h57))))))))
  refine yA ?_
  refine yS [(0, iV 0), (1, uV 0)] [iV 0, uV 0] h59 fun w60 h61 => ?_
  have h62 := tk8 (sf7 (sf6 (sf6 (sf6 (sf7 (sf7 (sf7 (sf7 h61))))))))
  refine yA ?_
  refine yS [(0, iV 4)] [iV 4] h62 fun w63 h64 => ?_
  refine PO.mk ?_
  refine yK [(2, pV r4), (3, pV r7)] fun lr65 => ?_
  refine yRt ?_
  repeat (first | simp only [Exit.inBlock] | simp only [Exit.then])
  have h66 := tk8 (sf7 (sf6 (sf6 (sf7 (sf7 (sf7 (sf7 (sf7 h64))))))))
  refine hi_out1 h66 [iV 0, uV 0, iV 4] (.tuple #[.agg #[iV 0, uV 0], iV 4]) [(⟨r4, 0, none⟩, iV 0), (⟨r4, 1, none⟩, uV 0), (⟨r7, 0, none⟩, iV 4)] (by kernel_rfl) (fun w68 h67 => ⟨?_, ?_⟩)
  · exact (allq ⟨sat_cell h67 2 rfl rfl, sat_cell h67 2 rfl rfl, sat_cell h67 1 rfl rfl, trivial⟩)
  ·
   have h69 : sat g w68 [pt D54 (Obj.deferred none), Cl r7 [iV 4] 38, Cl r4 [iV 0, uV 0] 148, Cl r1 [pV b] 31, Cl b16 [pV b] 31, Cl b17 [iV 0] 3, Tb b n A, R] := h67
   have h70 := tk8 (sf7 (sf6 (sf6 (sf6 (sf6 (sf6 (sf6 (sf7 h69))))))))
   have h71 := tk2 (sf1 (sf7 h70))
   exact ⟨.tuple #[.agg #[iV 0, uV 0], iV 4], [Tb b n A], rfl, ⟨by rw [(take_none (by omega)).1], by rw [(take_none (by omega)).2]⟩, h71⟩
 ·
  rintro D72 w73 ex_ i K_ hi75 (⟨rfl, hz0, rfl⟩) h74
  ·
   have h76 : sat g w73 [pt D72 (Obj.deferred (some [])), Cl r1 [pV b] 31, Cl r4 [iV (((((inS 0 A 0).getD i (0, 0)).1 : Nat) : Int)), uV (((inS 0 A 0).getD i (0, 0)).2)] 148, Cl r7 [iV 0] 38, Tb b n (A.set ((inS 0 A 0).getD i (0, 0)).1 (1, ((inS 0 A 0).getD i (0, 0)).2)), R] := h74
   refine gi_rt rfl ?_
   repeat (first | simp only [Exit.inBlock] | simp only [Exit.then])
   refine hi_out1 h76 [iV (((((inS 0 A 0).getD i (0, 0)).1 : Nat) : Int)), uV (((inS 0 A 0).getD i (0, 0)).2), iV 0] (.tuple #[.agg #[iV (((((inS 0 A 0).getD i (0, 0)).1 : Nat) : Int)), uV (((inS 0 A 0).getD i (0, 0)).2)], iV 0]) [(⟨r4, 0, none⟩, iV (((((inS 0 A 0).getD i (0, 0)).1 : Nat) : Int))), (⟨r4, 1, none⟩, uV (((inS 0 A 0).getD i (0, 0)).2)), (⟨r7, 0, none⟩, iV 0)] (by kernel_rfl) (fun w78 h77 => ⟨?_, ?_⟩)
   · exact (allq ⟨sat_cell h77 2 rfl rfl, sat_cell h77 2 rfl rfl, sat_cell h77 3 rfl rfl, trivial⟩)
   ·
    have h79 : sat g w78 [pt D72 (Obj.deferred none), Cl r1 [pV b] 31, Cl r4 [iV (((((inS 0 A 0).getD i (0, 0)).1 : Nat) : Int)), uV (((inS 0 A 0).getD i (0, 0)).2)] 148, Cl r7 [iV 0] 38, Tb b n (A.set ((inS 0 A 0).getD i (0, 0)).1 (1, ((inS 0 A 0).getD i (0, 0)).2)), R] := h77
    have h80 := tk6 (sf5 (sf4 (sf4 (sf4 (sf4 (sf5 h79))))))
    have h81 := tk2 (sf1 (sf5 h80))
    exact ⟨.tuple #[.agg #[iV (((((inS 0 A 0).getD i (0, 0)).1 : Nat) : Int)), uV (((inS 0 A 0).getD i (0, 0)).2)], iV 0], [Tb b n (A.set ((inS 0 A 0).getD i (0, 0)).1 (1, ((inS 0 A 0).getD i (0, 0)).2))], rfl, ⟨by obtain rfl : i = 0 := (by omega); rw [(take_some (by omega)).1], by obtain rfl : i = 0 := (by omega); rw [(take_some (by omega)).2]⟩, h81⟩

end Go.Proofs.YtehlamblpekmkaaGreatDoor

/- Walks, printed by my generator P:../fds/gen5.py. -/
namespace Go.Proofs.YtehlamblpekmkaaGreatDoor
set_option maxHeartbeats 4000000
theorem snew_ok (n : Nat) (hn : 1 ≤ n ∧ n ≤ 256) (gn : Int) (hgn : 1 ≤ gn ∧ gn ≤ 4294967295) : HT Tryz.prog 96 [iV (((n : Nat) : Int)), uV gn] [] (fun v K => ∃ b : Nat, v = .tuple #[pV b, iV 0] ∧ K = [Tb b n (List.replicate n (0, gn))]) := by
 refine hiS Tryz.func96 Tryz.ntmps96 fun g w0 R h0 => go [.v 1 1 (oF ((n : Int) < 1)), .v 1 4 (oF ((n : Int) > 256))] <| cl0 Tryz.call97 (gcheck_ok gn (by omega) (by omega)) h0 fun _ h11 => go [] ?_
 refine actG ?_
 refine an_new (d := 21) (fun xb_ => pV xb_) (fun xb_ => Obj.cells (tbl n (List.replicate 256 (0, 0))).toArray 256 (0, 0)) (fun xb_ => by kernel_rfl) (by kernel_rfl) rfl h11 ?_
 intro r12 w13 (h14 : sat g w13 [Cl r12 (tbl n (List.replicate 0 (0, gn) ++ List.replicate (256 - 0) (0, 0))) 256, R])
 refine nxA <| go [] ?_
 refine lpS (fun mz_ a w => ∃ i : Nat, ∃ lr : Fr, mz_ = n - i ∧ (i ≤ n) ∧ a = mk 35 (([(1, uV gn), (6, pV r12), (22, iV (n : Int)), (23, iV (i : Int))] : Fr) ++ lr) ∧ sat g w [Cl r12 (tbl n (List.replicate i (0, gn) ++ List.replicate (256 - i) (0, 0))) 256, R]) (n - 0) ⟨0, _, rfl, (Nat.zero_le _), (lvF [.k 1 (uV gn), .k 6 (pV r12), .k 22 (iV (n : Int)), .o 23 (oJ .i64 0 (0 : Int))]), h14⟩ ?_
 rintro m16 a17 w18 ⟨i, lr15, rfl, hi, rfl, h19⟩
 refine ga <| go [.s 5 0] ?_
 by_cases c20 : (i : Int) < (n : Int)
 ·
  refine go [.v 5 0 (oT ((i : Int) < (n : Int))), .s 7 5] <| lwP (.pointer (some ⟨r12, i * 2 + 1, none⟩)) (law_indexArr (x := (Operand.tmp 30)) (i := (Operand.tmp 27)) (b := r12) (off := 1) (z := (i : Int)) (by kernel_rfl) Tryz.underlying254 2 (by kernel_rfl) i (by kernel_rfl) (by kernel_rfl) (by omega) (by omega) (i * 2 + 1) (by omega) _) <| go [] ?_
  refine actG ?_
  refine an_store [(i * 2 + 2, uV gn)] (cs' := (tbl n (List.replicate (i + 1) (0, gn) ++ List.replicate (256 - (i + 1)) (0, 0)))) (by kernel_rfl) (by kernel_rfl) (allq ⟨⟨by rw [tbl_len, List.length_append, List.length_replicate, List.length_replicate]; omega, rfl⟩, trivial⟩) (new_put (i := i) (by omega) (by omega)) h19 ?_
  intro _ h22
  refine nxB <| go [.v 8 0 (oIr ((i : Int) + 1))] ?_
  refine enL ?_
  change ∃ n', n' < _ ∧ _
  refine ⟨(n - (i + 1)), by omega, (i + 1), _, rfl, (by omega), (lvF [.k 1 (uV gn), .k 6 (pV r12), .k 22 (iV (n : Int)), .o 23 (oJ .i64 ((i : Int) + 1) ((((i + 1) : Nat) : Int)))]), h22⟩
 refine go [.v 5 0 (oF ((i : Int) < (n : Int)))] <| up <| go [] ?_
 obtain rfl : i = n := by omega
 have h23 : sat g w18 [Tb r12 i (List.replicate i (0, gn)), R] := tb_close (new_ok (by omega) (by omega) (by omega) (by omega)) h19
 exact en (.tuple #[pV r12, iV 0]) [] ⟨_, _, rfl, ⟨r12, rfl, rfl⟩, h23⟩

theorem free1_y (s gn : Int) (hs : s = 0) : HT Tryz.prog 206 [.agg #[iV s, uV gn]] [] (fun v K => v = .bool true ∧ K = []) := by
 refine hiS Tryz.func206 Tryz.ntmps206 fun g w0 R h0 => go [] <| nP 253 [iV s, uV gn] h0 (fun _ _ h12 => ?_)
 refine go [rd 1 1 0 0 1 h12, .v 1 2 (qeT s 0)] ?_
 exact en (.bool true) [] ⟨_, _, rfl, ⟨rfl, rfl⟩, (tk1 (sf1 h12))⟩

theorem free1_n (s gn : Int) (hs : ¬ s = 0) : HT Tryz.prog 206 [.agg #[iV s, uV gn]] [] (fun v K => v = .bool false ∧ K = []) := by
 refine hiS Tryz.func206 Tryz.ntmps206 fun g w0 R h0 => go [] <| nP 253 [iV s, uV gn] h0 (fun _ _ h12 => ?_)
 refine go [rd 1 1 0 0 1 h12, .v 1 2 (qeF s 0)] ?_
 exact en (.bool false) [] ⟨_, _, rfl, ⟨rfl, rfl⟩, (tk1 (sf1 h12))⟩

theorem count0_ht (b n : Nat) (A : List Sl2) : HT Tryz.prog 205 [pV b, .func (Fn.func 206) #[] #[]] [Tb b n A] (fun v K => v = iV ((((inS 0 A 0).length : Nat) : Int)) ∧ K = [Tb b n A]) := by
 refine hiS Tryz.func205 Tryz.ntmps205 fun g w0 R h0 => ?_
 obtain ⟨T10, hp11, h12⟩ := tb_open h0
 have hq13 := hp11.2.1; have hq14 := hp11.2.2.1; have hq15 := hp11.2.2.2.2
 have hAl := hp11.1
 refine go [] <| cl1 Tryz.call228 (svalid_cl b n _ (by omega)) h12 fun _ h17 => go [] <| dw (fls [0, 1, 2, 3, 4, 5, 6, 7, 8, 9] Tr.nil) h17 fun _ h19 => go [rd 4 6 0 0 1 h19, .s 4 7] <| lw (.slice (some ⟨b, 1, none⟩) n 256) (fun _ => law_sliceArr (x := (Operand.tmp 13)) (lo := none) (hi := (some (Operand.tmp 17))) (b := b) (off := 1) (by kernel_rfl) Tryz.underlying254 2 (by kernel_rfl) 0 (n : Int) 0 n (by kernel_rfl) rfl (show fe _ _ (Operand.tmp 17) = _ from by kernel_rfl) (by omega) (by omega) (by omega) (by omega) 1 (by split <;> omega) n 256 (by omega) (by omega) _) <| go [] ?_
 have hc0_ : cnt 0 A 0 = 0 := rfl
 refine lpS (fun mz_ a w => ∃ i : Nat, ∃ lr : Fr, mz_ = n - i ∧ (i ≤ n) ∧ a = mk 31 (([(1, .func (Fn.func 206) #[] #[]), (5, iV (((cnt 0 A i : Nat) : Int))), (18, .slice (some ⟨b, 1, none⟩) n 256), (19, iV (n : Int)), (20, iV (i : Int))] : Fr) ++ lr) ∧ sat g w [Cl b (tbl n (A ++ T10)) 256, R]) (n - 0) ⟨0, _, rfl, (Nat.zero_le _), (lvF [.k 1 (.func (Fn.func 206) #[] #[]), .o 5 (oJ .i64 0 (((cnt 0 A 0 : Nat) : Int))), .k 18 (.slice (some ⟨b, 1, none⟩) n 256), .k 19 (iV (n : Int)), .o 20 (oJ .i64 0 (0 : Int))]), h19⟩ ?_
 rintro m21 a22 w23 ⟨i, lr20, rfl, hi, rfl, h24⟩
 refine ga ?_
 have hc1_ := cnt_le 0 A i; have hc2_ := inS_len 0 A 0
 have hc3_ : cnt 0 A i ≤ n := by omega
 refine go [.s 5 0] ?_
 by_cases c25 : (i : Int) < (n : Int)
 ·
  refine go [.v 5 0 (oT ((i : Int) < (n : Int))), .s 6 0] <| lwP (.pointer (some ⟨b, i * 2 + 1, none⟩)) (law_indexSl (x := (Operand.tmp 18)) (i := (Operand.tmp 20)) (b := b) (off := 1) (z := (i : Int)) (len := n) (cap := 256) (by kernel_rfl) Tryz.underlying345 2 (by kernel_rfl) i (by kernel_rfl) (by kernel_rfl) (by omega) (by omega) (i * 2 + 1) (by omega) _) ?_
  obtain ⟨x26, hx27⟩ : ∃ x : Sl2, A[i]? = some x := ⟨_, List.getElem?_eq_getElem (by rw [hp11.1]; omega)⟩
  have hb28 := hp11.2.2.2.1 x26 (List.mem_of_getElem? hx27)
  refine go [.r 6 1 b (i * 2 + 1) [iV x26.1, uV x26.2] ⟨sat_cell h24 0 rfl (tbl_stk (app_get hx27) (by omega)), sat_cell h24 0 rfl (tbl_genk (app_get hx27) (by omega)), trivial⟩] <| nP 253 [iV 0, uV 0] h24 (fun _ _ h31 => ?_)
  refine sP [(0, iV x26.1), (1, uV x26.2)] [iV x26.1, uV x26.2] h31 fun _ h33 => go [rd 7 1 0 0 2 h33] ?_
  by_cases c34 : x26.1 = 0
  ·
   refine cl0 Tryz.call206 (free1_y x26.1 x26.2 (by omega)) h33 fun _ h36 => go [.v 8 1 (oIr ((((cnt 0 A i : Nat) : Int)) + 1)), .v 9 0 (oIr ((i : Int) + 1))] ?_
   refine enL ?_
   have hc_ : cnt 0 A (i + 1) = (cnt 0 A i) + 1 := cnt_go hx27 (by omega)
   have h38 := tk2 (tk3 (sf2 (sf2 h36)))
   change ∃ n', n' < _ ∧ _
   refine ⟨(n - (i + 1)), by omega, (i + 1), _, rfl, (by omega), (lvF [.k 1 (.func (Fn.func 206) #[] #[]), .o 5 (oJ .i64 (((cnt 0 A i : Nat) : Int) + 1) (((cnt 0 A (i + 1) : Nat) : Int))), .k 18 (.slice (some ⟨b, 1, none⟩) n 256), .k 19 (iV (n : Int)), .o 20 (oJ .i64 ((i : Int) + 1) ((((i + 1) : Nat) : Int)))]), h38⟩
  refine cl0 Tryz.call206 (free1_n x26.1 x26.2 (by omega)) h33 fun _ h40 => go [.v 9 0 (oIr ((i : Int) + 1))] ?_
  refine enL ?_
  have hc_ : cnt 0 A (i + 1) = (cnt 0 A i) := cnt_no hx27 (by omega)
  have h42 := tk2 (tk3 (sf2 (sf2 h40)))
  change ∃ n', n' < _ ∧ _
  refine ⟨(n - (i + 1)), by omega, (i + 1), _, rfl, (by omega), (lvF [.k 1 (.func (Fn.func 206) #[] #[]), .o 5 (oJ .i64 (((cnt 0 A i : Nat) : Int)) (((cnt 0 A (i + 1) : Nat) : Int))), .k 18 (.slice (some ⟨b, 1, none⟩) n 256), .k 19 (iV (n : Int)), .o 20 (oJ .i64 ((i : Int) + 1) ((((i + 1) : Nat) : Int)))]), h42⟩
 refine go [.v 5 0 (oF ((i : Int) < (n : Int)))] <| up <| go [] ?_
 have hc_ : cnt 0 A i = (inS 0 A 0).length := cnt_all 0 (by omega)
 have h43 : sat g w23 [Tb b n A, R] := tb_close hp11 h24
 exact en (iV (((cnt 0 A i : Nat) : Int))) [] ⟨_, _, rfl, ⟨by rw [hc_], rfl⟩, h43⟩

theorem sfree_ht (b n : Nat) (A : List Sl2) : HT Tryz.prog 143 [pV b] [Tb b n A] (fun v K => v = iV ((((inS 0 A 0).length : Nat) : Int)) ∧ K = [Tb b n A]) := by
 refine hiS Tryz.func143 Tryz.ntmps143 fun g w0 R h0 => go [] <| cl1 Tryz.call205 (count0_ht b n A) h0 fun _ h11 => go [] ?_
 exact en (iV ((((inS 0 A 0).length : Nat) : Int))) [] ⟨_, _, rfl, ⟨rfl, rfl⟩, h11⟩

end Go.Proofs.YtehlamblpekmkaaGreatDoor

/- Walks, printed by my generator P:../fds/gen6.py. -/
namespace Go.Proofs.YtehlamblpekmkaaGreatDoor
set_option maxHeartbeats 4000000
theorem taken_ht (b n : Nat) (A : List Sl2) : HT Tryz.prog 293 [Value.pointer (some ⟨b, 0, none⟩)] [Tb b n A] (fun v K => ∃ (p : Option Addr) (c : Nat), v = Value.slice p ((inS 1 A 0).length) c ∧ K = [Tb b n A, Sl 148 2 p (((inS 1 A 0).length)) c (fl eRf (inS 1 A 0))]) := by
 refine hi_in 17 ([(0, pV b)] : Fr) Tryz.func293 (by kernel_rfl) Tryz.ntmps293 rfl rfl ?_
 intro g w0 R h0
 refine ySq ?_
 refine yPl [0] ?_
 refine yB0 [] [0] [(2, .slice none 0 0)] (.mk ?_)
 refine yK [(0, pV b), (2, .slice none 0 0)] fun lr1 => ?_
 refine ySq ?_
 refine yPl [0] ?_
 refine yA ?_
 refine yNp 3 375 [.slice none 0 0] h0 fun r2 w3 h4 => ?_
 refine PO.mk ?_
 refine yK [(0, pV b), (2, .slice none 0 0), (3, pV r2)] fun lr5 => ?_
 refine ySq ?_
 refine ySq ?_
 refine yPl [0, 1] ?_
 refine yB0 [1] [0] [(6, pV b)] ?_
 refine yA ?_
 refine yCl 7 Tryz.call258 (in_ht b 1) h4 ?_
 rintro v K w8 (⟨b6, b7, rfl, rfl⟩) h9
 refine ⟨_, rfl, ?_⟩
 have h10 := ap2 h9
 refine PO.mk ?_
 refine yK [(0, pV b), (2, .slice none 0 0), (3, pV r2), (7, .func (Fn.func 286) #[] #[pV b6, pV b7])] fun lr11 => ?_
 refine yBk 0 ?_
 have hb12 := tb_bd (j := 3) h10 rfl
 have hb13 := hb12.2.1; have hb14 := hb12.2.2.1
 have hl_ : ((inS 1 A 0).length) ≤ 256 := by have h_ := inS_len 1 A 0; omega
 have hz_ : (inS 1 A 0).take 0 = [] := rfl
 have h15 : sat g w8 [Sl 148 2 none 0 0 (fl eRf []), Cl b6 [pV b] 31, Cl b7 [iV 1] 3, Cl r2 [.slice none 0 0] 375, Tb b n A, R] := sl_nil 148 2 h10
 have h16 := tk6 (sf5 (sf4 (sf4 (sf4 (sf5 (sf5 h15))))))
 refine gi_rf (x := (Operand.tmp 7)) (ps := #[8, 9]) (asg := CA Tryz.f293 [1, 1, 0, 1, 0, 1]) (bd := CA Tryz.f293 [1, 1, 0, 1, 0, 0]) (gf := 286) (cap := [pV b6, pV b7]) (N := ((inS 1 A 0).length)) (xs := fun i => [iV (((((inS 1 A 0).getD i (0, 0)).1 : Nat) : Int)), uV (((inS 1 A 0).getD i (0, 0)).2)]) (At := [Cl b6 [pV b] 31, Cl b7 [iV 1] 3, Tb b n A]) (K0 := [Cl r2 [.slice none 0 0] 375, Sl 148 2 none 0 0 (fl eRf [])]) (L := [R]) (fun i => [(9, uV (((inS 1 A 0).getD i (0, 0)).2)), (8, iV (((((inS 1 A 0).getD i (0, 0)).1 : Nat) : Int)))] ++ (([(0, pV b), (2, .slice none 0 0), (3, pV r2), (7, .func (Fn.func 286) #[] #[pV b6, pV b7])] : Fr) ++ lr11)) (fun i => ([(5, uV (((inS 1 A 0).getD i (0, 0)).2)), (4, iV (((((inS 1 A 0).getD i (0, 0)).1 : Nat) : Int))), (9, uV (((inS 1 A 0).getD i (0, 0)).2)), (8, iV (((((inS 1 A 0).getD i (0, 0)).1 : Nat) : Int)))] : Fr) ++ (([(0, pV b), (2, .slice none 0 0), (3, pV r2), (7, .func (Fn.func 286) #[] #[pV b6, pV b7])] : Fr) ++ lr11)) (fun i K => ∃ p : Option Addr, ∃ c : Nat, K = [Cl r2 [.slice p i c] 375, Sl 148 2 p i c (fl eRf ((inS 1 A 0).take i))]) (fun c i K => False) (by kernel_rfl) (by kernel_rfl) Tryz.call286 (in_it b6 b7 b n 1 A (by omega) (by omega)) ⟨none, 0, rfl⟩ h16 (fun _ _ => rfl) (fun _ _ => rf_frame2 rfl rfl) ?_ ?_ ?_ ?_
 ·
  intro i hi_ lp_ w17 K_ hk18
  change WP _ _ (CA Tryz.f293 [1, 1, 0, 1, 0, 1]) _ (mk 17 (([(9, uV (((inS 1 A 0).getD i (0, 0)).2)), (8, iV (((((inS 1 A 0).getD i (0, 0)).1 : Nat) : Int))), (0, pV b), (2, .slice none 0 0), (3, pV r2), (7, .func (Fn.func 286) #[] #[pV b6, pV b7])] : Fr) ++ lr11)) _
  refine ySq ?_
  refine yPl [0] ?_
  refine yB0 [] [0] [(4, iV (((((inS 1 A 0).getD i (0, 0)).1 : Nat) : Int)))] (.mk ?_)
  refine yPl [0] ?_
  refine yB0 [] [0] [(5, uV (((inS 1 A 0).getD i (0, 0)).2))] (.mk ?_)
  exact hk18
 ·
  rintro i hi21 lp_ w19 K_ G ⟨p, c, rfl⟩ h20
  have h22 : sat g w19 [Cl r2 [.slice p i c] 375, Sl 148 2 p i c (fl eRf ((inS 1 A 0).take i)), Cl b6 [pV b] 31, Cl b7 [iV 1] 3, Tb b n A, G] := h20
  change WP _ _ (CA Tryz.f293 [1, 1, 0, 1, 0, 0]) _ (mk 17 (([(5, uV (((inS 1 A 0).getD i (0, 0)).2)), (4, iV (((((inS 1 A 0).getD i (0, 0)).1 : Nat) : Int))), (9, uV (((inS 1 A 0).getD i (0, 0)).2)), (8, iV (((((inS 1 A 0).getD i (0, 0)).1 : Nat) : Int))), (0, pV b), (2, .slice none 0 0), (3, pV r2), (7, .func (Fn.func 286) #[] #[pV b6, pV b7])] : Fr) ++ lr11)) _
  refine yBk 1 ?_
  refine yPl [0, 1, 2, 3, 4, 5, 6] ?_
  refine yBb [4, 5, 6] [(13, .agg #[iV (((((inS 1 A 0).getD i (0, 0)).1 : Nat) : Int)), uV (((inS 1 A 0).getD i (0, 0)).2)]), (12, uV (((inS 1 A 0).getD i (0, 0)).2)), (11, iV (((((inS 1 A 0).getD i (0, 0)).1 : Nat) : Int))), (10, .slice p i c)] [e2 0 [.slice p i c], e0 1, e0 2, e0 3] [(0, ⟨r2, 0, none⟩, .slice p i c)] [] trivial (kC (sat_cell h22 0 rfl rfl) nC) ?_
  refine yA ?_
  refine an_new (d := 14) (fun xb_ => .slice (some ⟨xb_, 0, none⟩) 1 1) (fun xb_ => Obj.cells [iV (((((inS 1 A 0).getD i (0, 0)).1 : Nat) : Int)), uV (((inS 1 A 0).getD i (0, 0)).2)].toArray 148 (0, 0)) (fun xb_ => by kernel_rfl) (by kernel_rfl) rfl h22 ?_
  intro r23 w24 (h25 : sat g w24 [Cl r23 [iV (((((inS 1 A 0).getD i (0, 0)).1 : Nat) : Int)), uV (((inS 1 A 0).getD i (0, 0)).2)] 148, Cl r2 [.slice p i c] 375, Sl 148 2 p i c (fl eRf ((inS 1 A 0).take i)), Cl b6 [pV b] 31, Cl b7 [iV 1] 3, Tb b n A, G])
  have h26 := tk7 (sf6 (sf5 (sf5 (sf6 (sf6 (sf6 (sf6 h25)))))))
  refine yA ?_
  refine an_append (d := 15) (sz := 2) (s := (Operand.tmp 10)) (x := (Operand.tmp 14)) (z := .agg #[iV 0, uV 0]) (p := p) (m := i) (c := c) (k := 1) (c2 := 1) (a := ⟨r23, 0, none⟩) (by_ := 16) (by kernel_rfl) (by kernel_rfl) rfl Tryz.underlying375 (by kernel_rfl) rfl (by decide) (by kernel_rfl) (by kernel_rfl) h26 (fl eRf [(((((inS 1 A 0).getD i (0, 0)).1)), ((inS 1 A 0).getD i (0, 0)).2)]) rfl (fun j u hj => by rw [add_off]; exact sat_cell h26 1 rfl (by rw [Nat.zero_add]; exact hj)) (fl_one eRf_ok _) (by omega) (by omega) (i + 1) (by omega) ?_
  intro p27 cap28 w29 h30
  have h31 : sat g w29 [Sl 148 2 p27 (i + 1) cap28 (fl eRf (((inS 1 A 0).take i) ++ [(((((inS 1 A 0).getD i (0, 0)).1)), ((inS 1 A 0).getD i (0, 0)).2)])), Cl r23 [iV (((((inS 1 A 0).getD i (0, 0)).1 : Nat) : Int)), uV (((inS 1 A 0).getD i (0, 0)).2)] 148, Cl r2 [.slice p i c] 375, Cl b6 [pV b] 31, Cl b7 [iV 1] 3, Tb b n A, G] := sat_imp h30 (fun _ hh => by rw [fl_app]; exact hh)
  obtain ⟨hn32, hn33⟩ := sl_le h31
  have h34 := tk7 (sf6 (sf5 (sf5 (sf6 (sf6 (sf6 (sf6 h31)))))))
  refine yA ?_
  refine yS [(0, .slice p27 (i + 1) cap28)] [.slice p27 (i + 1) cap28] h34 fun w35 h36 => ?_
  refine PO.mk ?_
  repeat (first | simp only [Exit.inBlock] | simp only [Exit.then])
  have h37 := tk7 (sf6 (sf5 (sf6 (sf6 (sf6 (sf6 (sf6 h36)))))))
  have h38 : sat g w35 [Sl 148 2 p27 (i + 1) cap28 (fl eRf ((inS 1 A 0).take (i + 1))), Cl r2 [.slice p27 (i + 1) cap28] 375, Cl r23 [iV (((((inS 1 A 0).getD i (0, 0)).1 : Nat) : Int)), uV (((inS 1 A 0).getD i (0, 0)).2)] 148, Cl b6 [pV b] 31, Cl b7 [iV 1] 3, Tb b n A, G] := (show (((inS 1 A 0).take i) ++ [(((((inS 1 A 0).getD i (0, 0)).1)), ((inS 1 A 0).getD i (0, 0)).2)]) = ((inS 1 A 0).take (i + 1)) from take_getD (by omega)) ▸ h37
  have h39 := tk7 (sf6 (sf5 (sf6 (sf6 (sf6 (sf6 (sf2 h38)))))))
  have h40 := tk6 h39
  exact ⟨_, ⟨p27, cap28, rfl⟩, h40⟩
 ·
  rintro D41 w42 K_ ⟨p, c, rfl⟩ h43
  have h44 : sat g w42 [pt D41 (Obj.deferred (some [])), Cl r2 [.slice p (((inS 1 A 0).length)) c] 375, Sl 148 2 p (((inS 1 A 0).length)) c (fl eRf ((inS 1 A 0).take ((inS 1 A 0).length))), Cl b6 [pV b] 31, Cl b7 [iV 1] 3, Tb b n A, R] := h43
  have h45 := tk7 (sf6 (sf5 (sf5 (sf6 (sf6 (sf6 (sf6 h44)))))))
  have h46 : sat g w42 [Sl 148 2 p (((inS 1 A 0).length)) c (fl eRf (inS 1 A 0)), pt D41 (Obj.deferred (some [])), Cl r2 [.slice p (((inS 1 A 0).length)) c] 375, Cl b6 [pV b] 31, Cl b7 [iV 1] 3, Tb b n A, R] := sat_imp h45 (fun _ hh => by rw [List.take_length] at hh; exact hh)
  refine yK [(3, pV r2)] fun lr47 => ?_
  refine ySq ?_
  refine yPl [0, 1] ?_
  refine yBb [] [(2, .slice p (((inS 1 A 0).length)) c), (16, .slice p (((inS 1 A 0).length)) c)] [e2 0 [.slice p (((inS 1 A 0).length)) c], e0 1] [(0, ⟨r2, 0, none⟩, .slice p (((inS 1 A 0).length)) c)] [] trivial (kC (sat_cell h46 2 rfl rfl) nC) (.mk ?_)
  refine yK [(2, .slice p (((inS 1 A 0).length)) c)] fun lr48 => ?_
  refine yRt ?_
  repeat (first | simp only [Exit.inBlock] | simp only [Exit.then])
  have h49 := tk7 (sf6 (sf5 (sf6 (sf6 (sf6 (sf6 (sf6 h46)))))))
  refine hi_out1 h49 [] (.slice p (((inS 1 A 0).length)) c) [] (by kernel_rfl) (fun w51 h50 => ⟨?_, ?_⟩)
  · exact (by intro q hq; cases hq)
  ·
   have h52 : sat g w51 [pt D41 (Obj.deferred none), Sl 148 2 p (((inS 1 A 0).length)) c (fl eRf (inS 1 A 0)), Cl r2 [.slice p (((inS 1 A 0).length)) c] 375, Cl b6 [pV b] 31, Cl b7 [iV 1] 3, Tb b n A, R] := h50
   have h53 := tk7 (sf6 (sf5 (sf4 (sf5 (sf5 (sf5 (sf6 h52)))))))
   have h54 := tk3 (sf2 (sf2 (sf6 h53)))
   exact ⟨.slice p (((inS 1 A 0).length)) c, [Tb b n A, Sl 148 2 p (((inS 1 A 0).length)) c (fl eRf (inS 1 A 0))], rfl, ⟨p, c, rfl, rfl⟩, h54⟩
 ·
  intro _ _ _ _ _ _ hf_; exact hf_.elim

theorem give_ht (b n : Nat) (A : List Sl2) (q : Nat) (x : Sl2) (hx : A[q]? = some x) (ix gn : Int) (hc : ix = (q : Int) ∧ x.1 = 1 ∧ x.2 = gn) : HT Tryz.prog 197 [pV b, .agg #[iV ix, uV gn]] [Tb b n A] (fun v K => v = iV 0 ∧ K = [Tb b n (giveA A q gn)]) := by
 refine hiS Tryz.func197 Tryz.ntmps197 fun g w0 R h0 => ?_
 have hb10 := tb_bd (j := 0) h0 rfl
 have hq_ : q < n := by have h_ := (List.getElem?_eq_some_iff.1 hx).1; rw [hb10.1] at h_; exact h_
 have hx_ := hb10.2.2.2 x (List.mem_of_getElem? hx)
 have hb1_ := hb10.2.1; have hb2_ := hb10.2.2.1; have hb3_ := hb10.2.2.2
 refine go [] <| nP 148 [iV ix, uV gn] h0 (fun r11 _ h13 => ?_)
 have h14 := tk3 (sf2 (sf1 (sf2 h13)))
 refine go [rd 1 1 0 0 2 h13] <| cl1 Tryz.call248 (check_ok b n A q x hx ix gn (by omega)) h14 fun _ h16 => go [rd 4 1 1 1 1 h16] ?_
 by_cases c17 : gn < 4294967295
 ·
  refine cl0 Tryz.call249 (next_ok gn (by omega) (by omega)) h16 fun _ h19 => ?_
  obtain ⟨T20, hp21, h22⟩ := tb_open h19
  have hq23 := hp21.2.1; have hq24 := hp21.2.2.1; have hq25 := hp21.2.2.2.2
  refine go [] <| dw (fls [0, 1, 2, 3, 4, 5, 6, 7] (Tr.an 8 Tr.nil)) h22 fun _ h27 => go [rd 6 2 1 0 1 h27, .s 6 7] <| lw (.pointer (some ⟨b, q * 2 + 1, none⟩)) (fun _ => law_indexArr (x := (Operand.tmp 29)) (i := (Operand.tmp 25)) (b := b) (off := 1) (z := ix) (by kernel_rfl) Tryz.underlying254 2 (by kernel_rfl) q (by kernel_rfl) (by kernel_rfl) (by omega) (by omega) (q * 2 + 1) (by omega) _) ?_
  refine actG ?_
  refine an_store [(q * 2 + 1, iV 0), (q * 2 + 2, uV (gn + 1))] (cs' := (tbl n ((A.set q (0, gn + 1)) ++ T20))) (by kernel_rfl) (by kernel_rfl) (allq ⟨⟨by rw [tbl_len]; omega, rfl⟩, ⟨by rw [tbl_len]; omega, rfl⟩, trivial⟩) (tbl_put2k hx 0 (gn + 1) (by omega) (by omega)) h27 ?_
  intro w28 h29
  refine ⟨kd [], nxN ?_⟩
  have hA_ : (A.set q (0, gn + 1)) = giveA A q gn := by unfold giveA; rw [if_pos (by omega)]
  have h30 : sat g w28 [Cl b (tbl n ((giveA A q gn) ++ T20)) 256, Cl r11 [iV ix, uV gn] 148, R] := hA_ ▸ h29
  have h31 : sat g w28 [Tb b n (giveA A q gn), Cl r11 [iV ix, uV gn] 148, R] := tb_close ⟨by unfold giveA; split <;> (rw [List.length_set]; exact hp21.1), hp21.2.1, hp21.2.2.1, slOk_give hp21.2.2.2.1 hx (by omega), by have h_ := hp21.2.2.2.2; rw [List.length_append] at h_ ⊢; unfold giveA; split <;> (rw [List.length_set]; exact h_)⟩ h30
  refine go [] ?_
  exact en (iV 0) [] ⟨_, _, rfl, ⟨rfl, rfl⟩, (tk2 (sf1 (sf2 h31)))⟩
 refine cl0 Tryz.call249 (next_no gn (by omega)) h16 fun _ h34 => ?_
 obtain ⟨T35, hp36, h37⟩ := tb_open h34
 have hq38 := hp36.2.1; have hq39 := hp36.2.2.1; have hq40 := hp36.2.2.2.2
 refine go [] <| dw (fls [0, 1, 2, 3, 4, 5, 6] (Tr.an 7 Tr.nil)) h37 fun _ h42 => go [rd 7 2 1 0 1 h42, .s 7 5] <| lw (.pointer (some ⟨b, q * 2 + 1, none⟩)) (fun _ => law_indexArr (x := (Operand.tmp 35)) (i := (Operand.tmp 33)) (b := b) (off := 1) (z := ix) (by kernel_rfl) Tryz.underlying254 2 (by kernel_rfl) q (by kernel_rfl) (by kernel_rfl) (by omega) (by omega) (q * 2 + 1) (by omega) _) <| go [] ?_
 refine actG ?_
 refine an_store [(q * 2 + 1, iV 2)] (cs' := (tbl n ((A.set q (2, x.2)) ++ T35))) (by kernel_rfl) (by kernel_rfl) (allq ⟨⟨by rw [tbl_len]; omega, rfl⟩, trivial⟩) (tbl_putSk hx 2 (by omega)) h42 ?_
 intro w43 h44
 refine ⟨kd [], nxN ?_⟩
 have hA_ : (A.set q (2, x.2)) = giveA A q gn := by unfold giveA; rw [if_neg (by omega), show x.2 = gn from by omega]
 have h45 : sat g w43 [Cl b (tbl n ((giveA A q gn) ++ T35)) 256, Cl r11 [iV ix, uV gn] 148, R] := hA_ ▸ h44
 have h46 : sat g w43 [Tb b n (giveA A q gn), Cl r11 [iV ix, uV gn] 148, R] := tb_close ⟨by unfold giveA; split <;> (rw [List.length_set]; exact hp36.1), hp36.2.1, hp36.2.2.1, slOk_give hp36.2.2.2.1 hx (by omega), by have h_ := hp36.2.2.2.2; rw [List.length_append] at h_ ⊢; unfold giveA; split <;> (rw [List.length_set]; exact h_)⟩ h45
 refine go [] ?_
 exact en (iV 0) [] ⟨_, _, rfl, ⟨rfl, rfl⟩, (tk2 (sf1 (sf2 h46)))⟩

theorem scopy_ht (b n : Nat) (A : List Sl2) : HT Tryz.prog 182 [pV b] [Tb b n A] (fun v K => ∃ b2 : Nat, v = pV b2 ∧ K = [Tb b n A, Tb b2 n A]) := by
 refine hiS Tryz.func182 Tryz.ntmps182 fun g w0 R h0 => go [] <| cl1 Tryz.call228 (svalid_ht b n A) h0 fun _ h11 => ?_
 obtain ⟨T12, hp13, h14⟩ := tb_open h11
 have hq15 := hp13.2.1; have hq16 := hp13.2.2.1; have hq17 := hp13.2.2.2.2
 refine go [.s 3 2] <| lwP (.agg (tbl n (A ++ T12)).toArray) (law_loadRow (x := (Operand.tmp 8)) (by kernel_rfl) 0 h14 rfl _ rfl Tryz.underlying256 (by rw [tbl_len, hp13.2.2.2.2]; kernel_rfl) (by kernel_rfl)) ?_
 refine actG ?_
 refine an_new (d := 3) (fun xb_ => pV xb_) (fun xb_ => Obj.cells (tbl 0 (List.replicate 256 (0, 0))).toArray 256 (0, 0)) (fun xb_ => by kernel_rfl) (by kernel_rfl) rfl h14 ?_
 intro r18 w19 (h20 : sat g w19 [Cl r18 (tbl 0 (List.replicate 256 (0, 0))) 256, Cl b (tbl n (A ++ T12)) 256, R])
 refine nxA ?_
 refine actG ?_
 refine an_storeRow (t := 256) (x := (Operand.tmp 3)) (y := (Operand.tmp 9)) (cs := (tbl n (A ++ T12))) (by kernel_rfl) (by kernel_rfl) h20 (by rw [tbl_len, hp13.2.2.2.2]; kernel_rfl) (by rw [tbl_len, tbl_len, hp13.2.2.2.2, List.length_replicate]) (tbl_one _ _) (by kernel_rfl) (by kernel_rfl) ?_
 intro w21 h22
 refine nxB <| go [] ?_
 have h23 : sat g w21 [Tb r18 n A, Cl b (tbl n (A ++ T12)) 256, R] := tb_close hp13 h22
 have h25 : sat g w21 [Tb b n A, Tb r18 n A, R] := tb_close hp13 (tk3 (sf2 (sf1 (sf2 h23))))
 exact en (pV r18) [] ⟨_, _, rfl, ⟨r18, rfl, rfl⟩, h25⟩

end Go.Proofs.YtehlamblpekmkaaGreatDoor
