/- Walks, printed by my generator f0.py. -/
import Derived.Test.YtggfnbpohmhphaaDoorProg
import Derived.Test.YtggfnbpohmhphaaDoorFdsP
import Derived.Test.YtggfnbpohmhphaaDoorRn2
namespace Go.Proofs.YtggfnbpohmhphaaDoor
def tbl (n : Nat) (B : List Sl2) : List Value := .int .i64 (n : Int) :: fl eSl B
def SlOk (A : List Sl2) : Prop := ∀ s ∈ A, 0 ≤ s.1 ∧ s.1 ≤ 2 ∧ 1 ≤ s.2 ∧ s.2 ≤ 4294967295
/-- A table of slots whose first slots are A. -/
def Tb (b n : Nat) (A : List Sl2) : Assn := fun h => ∃ T : List Sl2, (A.length = n ∧ 1 ≤ n ∧ n ≤ 256 ∧ SlOk A ∧ (A ++ T).length = 256) ∧ Cl b (tbl n (A ++ T)) 113 h
theorem tbl_len (n : Nat) (B : List Sl2) : (tbl n B).length = 1 + B.length * 2 := by rw [tbl, List.length_cons, fl_len eSl_ok]; omega
theorem tbl_st {n i : Nat} {B : List Sl2} {s : Sl2} (h : B[i]? = some s) : (tbl n B)[1 + i * 2]? = some (.int .i64 s.1) := by
  have := fl_get eSl_ok (j := 0) (v := .int .i64 s.1) h rfl
  rw [tbl, show 1 + i * 2 = (i * 2 + 0) + 1 from by omega, List.getElem?_cons_succ]
  exact this
theorem tbl_gen {n i : Nat} {B : List Sl2} {s : Sl2} (h : B[i]? = some s) : (tbl n B)[1 + i * 2 + 1]? = some (.int .u32 s.2) := by
  have := fl_get eSl_ok (j := 1) (v := .int .u32 s.2) h rfl
  rw [tbl, show 1 + i * 2 + 1 = (i * 2 + 1) + 1 from by omega, List.getElem?_cons_succ]
  exact this
theorem fl_put (a : Int) (z : Int) : ∀ (B : List Sl2) (i : Nat) (s : Sl2), B[i]? = some s →
    (fl eSl B).set (i * 2) (.int .i64 a) = fl eSl (B.set i (a, s.2)) ∧ (fl eSl B).set (i * 2 + 1) (.int .u32 z) = fl eSl (B.set i (s.1, z))
  | [], i, s, h => by simp at h
  | b :: B, 0, s, h => by
    simp only [List.getElem?_cons_zero, Option.some.injEq] at h
    subst h
    exact ⟨rfl, rfl⟩
  | b :: B, i + 1, s, h => by
    obtain ⟨h1, h2⟩ := fl_put a z B i s (by simpa using h)
    rw [List.set_cons_succ, List.set_cons_succ, fl, fl, fl, ← h1, ← h2, show (i + 1) * 2 = i * 2 + 2 from by omega]
    exact ⟨rfl, rfl⟩
theorem tbl_putS {n i : Nat} {B : List Sl2} {s : Sl2} (h : B[i]? = some s) (a : Int) : setL (tbl n B) [(1 + i * 2, .int .i64 a)] = tbl n (B.set i (a, s.2)) := by
  simp only [setL, tbl, show 1 + i * 2 = i * 2 + 1 from by omega, List.set_cons_succ]
  rw [(fl_put a 0 B i s h).1]
theorem tbl_putG {n i : Nat} {B : List Sl2} {s : Sl2} (h : B[i]? = some s) (z : Int) : setL (tbl n B) [(1 + i * 2 + 1, .int .u32 z)] = tbl n (B.set i (s.1, z)) := by
  simp only [setL, tbl, show 1 + i * 2 + 1 = (i * 2 + 1) + 1 from by omega, List.set_cons_succ]
  rw [(fl_put 0 z B i s h).2]
theorem tbl_put2 {n i : Nat} {B : List Sl2} {s : Sl2} (h : B[i]? = some s) (a z : Int) : setL (tbl n B) [(1 + i * 2, .int .i64 a), (1 + i * 2 + 1, .int .u32 z)] = tbl n (B.set i (a, z)) := by
  have h1 := tbl_putS (n := n) h a
  have h2 := tbl_putG (n := n) (B := B.set i (a, s.2)) (i := i) (s := (a, s.2)) (by rw [List.getElem?_set_self (List.getElem?_eq_some_iff.1 h).1]) z
  rw [List.set_set] at h2
  rw [← h2, ← h1]
  rfl
theorem app_set {A T : List Sl2} {i : Nat} (x : Sl2) (h : i < A.length) : (A ++ T).set i x = A.set i x ++ T := List.set_append_left _ _ h
theorem app_get {A T : List Sl2} {i : Nat} {s : Sl2} (h : A[i]? = some s) : (A ++ T)[i]? = some s := by rw [List.getElem?_append_left (List.getElem?_eq_some_iff.1 h).1]; exact h
theorem slOk_set {A : List Sl2} {i : Nat} {x : Sl2} (h : SlOk A) (hx : 0 ≤ x.1 ∧ x.1 ≤ 2 ∧ 1 ≤ x.2 ∧ x.2 ≤ 4294967295) : SlOk (A.set i x) := fun s hs => by
  rcases List.mem_or_eq_of_mem_set hs with h1 | h1
  · exact h s h1
  · rw [h1]; exact hx
section
variable {g w : World} {L : List Assn} {b n : Nat} {A : List Sl2}
theorem tb_open (h : sat g w (Tb b n A :: L)) : ∃ T : List Sl2, (A.length = n ∧ 1 ≤ n ∧ n ≤ 256 ∧ SlOk A ∧ (A ++ T).length = 256) ∧ sat g w (Cl b (tbl n (A ++ T)) 113 :: L) :=
  sat_open (X := List Sl2) (p := fun T => A.length = n ∧ 1 ≤ n ∧ n ≤ 256 ∧ SlOk A ∧ (A ++ T).length = 256) (B := fun T => Cl b (tbl n (A ++ T)) 113) h fun k hk => hk
theorem tb_close {T : List Sl2} (hp : A.length = n ∧ 1 ≤ n ∧ n ≤ 256 ∧ SlOk A ∧ (A ++ T).length = 256) (h : sat g w (Cl b (tbl n (A ++ T)) 113 :: L)) : sat g w (Tb b n A :: L) := sat_imp h fun _ hh => ⟨T, hp, hh⟩
end
theorem keyok : KeyOk Tryd.prog 35 := by
  have hu : Tryd.prog.underlying 35 = some _ := Tryd.underlying35
  refine ⟨fun a b w => ?_, fun a e w => ?_, ⟨_, Tryd.underlying35⟩⟩
  · obtain ⟨a0, a1, a2⟩ := a
    obtain ⟨c0, c1, c2⟩ := b
    show (Op.equalIn 10000 35 (.agg #[.int .i64 a0, .int .i64 a1, .int .u32 a2]) (.agg #[.int .i64 c0, .int .i64 c1, .int .u32 c2])).run Tryd.prog w = .ok (decide ((a0, a1, a2) = (c0, c1, c2))) w
    by_cases h0 : a0 = c0
    · by_cases h1 : a1 = c1
      · by_cases h2 : a2 = c2
        · subst h0; subst h1; subst h2; simp [go_sem]
        · subst h0; subst h1; simp [go_sem, h2]
      · subst h0; simp [go_sem, h1]
    · simp [go_sem, h0]
  · have h : ∀ d : Nat, (Instr.checkKey e (d + 1 + 1) 35 (kv a)).run Tryd.prog w = .ok () w := fun d => by
      simp [kv, Instr.checkKey, go_sem]
    exact h 9998
theorem tbl_stk {n i k : Nat} {B : List Sl2} {s : Sl2} (h : B[i]? = some s) (hk : k = 1 + i * 2) : (tbl n B)[k]? = some (.int .i64 s.1) := hk ▸ tbl_st h
theorem tbl_genk {n i k : Nat} {B : List Sl2} {s : Sl2} (h : B[i]? = some s) (hk : k = 1 + i * 2 + 1) : (tbl n B)[k]? = some (.int .u32 s.2) := hk ▸ tbl_gen h
theorem tbl_putSk {n i k : Nat} {A T : List Sl2} {s : Sl2} (h : A[i]? = some s) (a : Int) (hk : k = 1 + i * 2) : setL (tbl n (A ++ T)) [(k, .int .i64 a)] = tbl n (A.set i (a, s.2) ++ T) := by
  subst hk
  rw [tbl_putS (app_get h), app_set _ (List.getElem?_eq_some_iff.1 h).1]
theorem tbl_put2k {n i k k2 : Nat} {A T : List Sl2} {s : Sl2} (h : A[i]? = some s) (a z : Int) (hk : k = 1 + i * 2) (hk2 : k2 = 1 + i * 2 + 1) : setL (tbl n (A ++ T)) [(k, .int .i64 a), (k2, .int .u32 z)] = tbl n (A.set i (a, z) ++ T) := by
  subst hk
  subst hk2
  rw [tbl_put2 (app_get h), app_set _ (List.getElem?_eq_some_iff.1 h).1]
theorem tbl_one (n : Nat) (B : List Sl2) : ∀ v ∈ tbl n B, v.oneCell' = true := fun v hv => by
  rcases List.mem_cons.1 hv with rfl | hv
  · rfl
  · exact fl_one eSl_ok B v hv
theorem tb_bd {g w : World} {L : List Assn} {j b n : Nat} {A : List Sl2} (h : sat g w L) (hj : L[j]? = some (Tb b n A)) : A.length = n ∧ 1 ≤ n ∧ n ≤ 256 ∧ SlOk A := sat_use h hj fun _ ha _ => by
  obtain ⟨T, hp, _⟩ := ha
  exact ⟨hp.1, hp.2.1, hp.2.2.1, hp.2.2.2.1⟩
theorem new_put {n i k : Nat} {z : Int} (h : i < 256) (hk : k = 1 + i * 2 + 1) : setL (tbl n (List.replicate i (0, z) ++ List.replicate (256 - i) (0, 0))) [(k, .int .u32 z)] = tbl n (List.replicate (i + 1) (0, z) ++ List.replicate (256 - (i + 1)) (0, 0)) := by
  subst hk
  obtain ⟨h1, h2⟩ := rep_put ((0, z) : Sl2) ((0, 0) : Sl2) (0, z) i 256 h
  rw [tbl_putG h1 z, h2, rep_go]
theorem new_ok {n : Nat} {z : Int} (h1 : 1 ≤ n) (h2 : n ≤ 256) (h3 : 1 ≤ z) (h4 : z ≤ 4294967295) : (List.replicate n ((0, z) : Sl2)).length = n ∧ 1 ≤ n ∧ n ≤ 256 ∧ SlOk (List.replicate n (0, z)) ∧ (List.replicate n ((0, z) : Sl2) ++ List.replicate (256 - n) (0, 0)).length = 256 := by
  refine ⟨List.length_replicate, h1, h2, fun s hs => ?_, by rw [List.length_append, List.length_replicate, List.length_replicate]; omega⟩
  rw [List.eq_of_mem_replicate hs]
  exact ⟨by show (0 : Int) ≤ 0; decide, by show (0 : Int) ≤ 2; decide, h3, h4⟩
theorem slOk_give {A : List Sl2} {q : Nat} {z : Int} {x : Sl2} (h : SlOk A) (hx : A[q]? = some x) (hz : x.2 = z) : SlOk (giveA A q z) := by
  have := h x (List.mem_of_getElem? hx)
  unfold giveA
  split
  · exact slOk_set h ⟨by show (0 : Int) ≤ 0; decide, by show (0 : Int) ≤ 2; decide, by show 1 ≤ z + 1; omega, by show z + 1 ≤ 4294967295; omega⟩
  · exact slOk_set h ⟨by show (0 : Int) ≤ 2; decide, by show (2 : Int) ≤ 2; decide, by show 1 ≤ z; omega, by show z ≤ 4294967295; omega⟩
end Go.Proofs.YtggfnbpohmhphaaDoor
