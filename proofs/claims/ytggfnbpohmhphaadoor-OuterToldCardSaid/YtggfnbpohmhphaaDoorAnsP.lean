/-
  What answers are, as plain functions of lists. No program in sight.
-/
import Derived.Test.YtggfnbpohmhphaaDoorFdsP
namespace Go.Proofs.YtggfnbpohmhphaaDoor

def ix (z : Int) : Int := if z = 111 then 0 else if z = 108 then 1 else if z = 102 then 2 else -1
/-- The answer of a letter; 0: none. -/
def cd (b : UInt8) : Int := ix (b.toNat : Int) + 1
/-- How many letters of answers stand at the head. -/
def gl : List UInt8 → Nat
  | [] => 0
  | b :: l => if cd b = 0 then 0 else gl l + 1
/-- Parse. -/
def prs (l : List UInt8) : List Int × Int := if 2000 < l.length then ([], 11) else if gl l < l.length then ([], 9) else (l.map cd, 0)

theorem ix_bd (z : Int) : -1 ≤ ix z ∧ ix z ≤ 2 := by unfold ix; (repeat split) <;> omega
theorem gl_le (l : List UInt8) : gl l ≤ l.length := by
  induction l with
  | nil => simp [gl]
  | cons b l ih => simp only [gl]; split <;> simp <;> omega
theorem gl_at : ∀ {l : List UInt8} {i : Nat} {x : UInt8}, i < gl l → l[i]? = some x → cd x ≠ 0
  | b :: l, 0, x, h, hx => by
    simp only [gl] at h
    simp only [List.getElem?_cons_zero, Option.some.injEq] at hx
    subst hx
    split at h
    · omega
    · assumption
  | b :: l, i + 1, x, h, hx => by
    simp only [gl] at h
    split at h
    · omega
    · exact gl_at (l := l) (i := i) (by omega) (by simpa using hx)
theorem gl_go : ∀ {l : List UInt8} {i : Nat} {x : UInt8}, i ≤ gl l → l[i]? = some x → cd x ≠ 0 → i < gl l
  | [], i, x, _, hx, _ => by simp at hx
  | b :: l, 0, x, _, hx, hc => by
    simp only [List.getElem?_cons_zero, Option.some.injEq] at hx
    subst hx
    simp [gl, hc]
  | b :: l, i + 1, x, h, hx, hc => by
    simp only [gl] at h ⊢
    split at h
    · omega
    · rename_i hb
      rw [if_neg hb]
      have := gl_go (l := l) (i := i) (by omega) (by simpa using hx) hc
      omega
theorem gl_stop {l : List UInt8} {i : Nat} {x : UInt8} (h : i ≤ gl l) (hx : l[i]? = some x) (hc : cd x = 0) : i = gl l := by
  rcases Nat.lt_or_ge i (gl l) with h1 | h1
  · exact absurd hc (gl_at h1 hx)
  · omega
theorem tk_eq {α β : Type} {f : α → β} {l : List α} {i : Nat} {x : α} {z : β} (hx : l[i]? = some x) (hz : f x = z) : (l.take i).map f ++ [z] = (l.take (i + 1)).map f := by
  subst hz
  rw [List.take_add_one, List.map_append, hx]
  rfl
theorem tk_all {α β : Type} {f : α → β} {l : List α} {n : Nat} (h : l.length ≤ n) : (l.take n).map f = l.map f := by rw [List.take_of_length_le h]
theorem cd_bd (x : UInt8) : 0 ≤ cd x ∧ cd x ≤ 3 := by have := ix_bd (x.toNat : Int); unfold cd; omega
theorem prs_many {l : List UInt8} (h : 2000 < l.length) : prs l = ([], 11) := by unfold prs; rw [if_pos h]
theorem prs_form {l : List UInt8} (h : l.length ≤ 2000) (h2 : gl l < l.length) : prs l = ([], 9) := by unfold prs; rw [if_neg (by omega), if_pos h2]
theorem prs_ok {l : List UInt8} (h : l.length ≤ 2000) (h2 : l.length ≤ gl l) : prs l = (l.map cd, 0) := by unfold prs; rw [if_neg (by omega), if_neg (by omega)]
theorem prs_len (l : List UInt8) : (prs l).1.length ≤ 2000 := by
  unfold prs
  split
  · simp
  · split
    · simp
    · simp; omega

/-- The letter of an answer. -/
def lt (z : Int) : UInt8 := if z = 1 then 111 else if z = 2 then 108 else 102
theorem lt1 {z : Int} (h : z = 1) : lt z = 111 := by subst h; rfl
/-- A source: what Add answers and leaves, what is looked at. -/
def addE (L : List Int) (l : List UInt8) : Int := if (prs l).2 ≠ 0 then (prs l).2 else if 2000 < L.length + (prs l).1.length then 11 else 0
def addL (L : List Int) (l : List UInt8) : List Int := if addE L l = 0 then L ++ (prs l).1 else L
theorem add_err {L : List Int} {l : List UInt8} (h : (prs l).2 ≠ 0) : addE L l = (prs l).2 ∧ addL L l = L := by
  have h1 : addE L l = (prs l).2 := by unfold addE; rw [if_pos h]
  exact ⟨h1, by unfold addL; rw [if_neg (by rw [h1]; exact h)]⟩
theorem add_many {L : List Int} {l : List UInt8} (h : (prs l).2 = 0) (h2 : 2000 < L.length + (prs l).1.length) : addE L l = 11 ∧ addL L l = L := by
  have h1 : addE L l = 11 := by unfold addE; rw [if_neg (by omega), if_pos h2]
  exact ⟨h1, by unfold addL; rw [if_neg (by omega)]⟩
theorem add_ok {L : List Int} {l : List UInt8} (h : (prs l).2 = 0) (h2 : L.length + (prs l).1.length ≤ 2000) : addE L l = 0 ∧ addL L l = L ++ (prs l).1 := by
  have h1 : addE L l = 0 := by unfold addE; rw [if_neg (by omega), if_neg (by omega)]
  exact ⟨h1, by unfold addL; rw [if_pos h1]⟩
theorem addL_len {L : List Int} {l : List UInt8} (h : L.length ≤ 2000) : (addL L l).length ≤ 2000 := by
  by_cases h1 : (prs l).2 = 0
  · rcases Nat.lt_or_ge 2000 (L.length + (prs l).1.length) with h2 | h2
    · rw [(add_many h1 h2).2]; exact h
    · rw [(add_ok h1 h2).2, List.length_append]; exact h2
  · rw [(add_err h1).2]; exact h
theorem hd_tl {L : List Int} {x : Int} (h : L[0]? = some x) : L.headD 1 = x := by
  cases L with
  | nil => simp at h
  | cons y L => simpa using h
theorem tl_drop (L : List Int) : L.drop 1 = L.tail := by simp
/-- The letter of a number. -/
def lq (b : UInt8) : UInt8 := if b.toNat % 3 = 0 then 111 else if b.toNat % 3 = 1 then 108 else 102
theorem lq_at {b y : UInt8} {q : Nat} (h : ((b.toNat : Nat) : Int).tmod 3 = (q : Int)) (hy : ([111, 108, 102] : List UInt8)[q]? = some y) : lq b = y := by
  have h1 : b.toNat % 3 = q := by
    rw [Int.tmod_eq_emod_of_nonneg (by omega)] at h
    omega
  have : q = 0 ∨ q = 1 ∨ q = 2 := by omega
  unfold lq
  rw [h1]
  rcases this with rfl | rfl | rfl <;> simpa using hy
theorem cd_lq (b : UInt8) : cd (lq b) = ((b.toNat % 3 : Nat) : Int) + 1 := by
  have : b.toNat % 3 = 0 ∨ b.toNat % 3 = 1 ∨ b.toNat % 3 = 2 := by omega
  unfold lq
  rcases this with h | h | h <;> rw [h] <;> rfl
theorem cd_tmod {b : UInt8} {q : Nat} (h : ((b.toNat : Nat) : Int).tmod 3 = (q : Int)) : cd (lq b) = (q : Int) + 1 := by
  rw [cd_lq]
  rw [Int.tmod_eq_emod_of_nonneg (by omega)] at h
  omega
theorem gl_all {l : List UInt8} (h : ∀ x ∈ l, cd x ≠ 0) : gl l = l.length := by
  induction l with
  | nil => rfl
  | cons b l ih =>
    rw [gl, if_neg (h b (by simp)), ih fun x hx => h x (by simp [hx])]
    rfl
theorem gl_lq (l : List UInt8) : gl (l.map lq) = (l.map lq).length := gl_all fun x hx => by
  obtain ⟨b, _, rfl⟩ := List.mem_map.1 hx
  rw [cd_lq]
  omega
theorem prs_lq {l : List UInt8} (h : l.length ≤ 2000) : prs (l.map lq) = ((l.map lq).map cd, 0) := prs_ok (by rw [List.length_map]; exact h) (by rw [gl_lq]; exact Nat.le_refl _)
end Go.Proofs.YtggfnbpohmhphaaDoor
