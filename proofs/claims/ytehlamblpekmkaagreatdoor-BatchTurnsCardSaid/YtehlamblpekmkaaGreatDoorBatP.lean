/-
  Releasing in batches (chapter 34), as plain functions of a table and a world. No program in sight.
-/
import Derived.Test.YtehlamblpekmkaaGreatDoorBundle29
import Derived.Test.YtehlamblpekmkaaGreatDoorBundle32
import Derived.Test.YtehlamblpekmkaaGreatDoorExa
import Derived.Sort.LotA
namespace Go.Proofs.YtehlamblpekmkaaGreatDoor
open Go.Sort
def cmpI (a b : Int) : Int := if a < b then -1 else if b < a then 1 else 0
def nxR (S : Ts) (n : Int) : Int := (getR S n).nx
def befB (S : Ts) (a b : Int) : Prop := nxR S a < nxR S b ∨ (nxR S a = nxR S b ∧ a < b)
instance (S : Ts) (a b : Int) : Decidable (befB S a b) := by unfold befB; infer_instance
def cfB (S : Ts) (a b : Int) : Int := if cmpI (nxR S a) (nxR S b) ≠ 0 then cmpI (nxR S a) (nxR S b) else cmpI a b
theorem cfB_lt {S : Ts} {a b : Int} : cfB S a b < 0 ↔ befB S a b := by
  unfold cfB befB cmpI
  split <;> split <;> (try split) <;> (try split) <;> omega
theorem ltB (S : Ts) (a b : Int) : ltOf (cfB S) a b = decide (befB S a b) := by
  unfold ltOf
  rw [decide_eq_decide]
  exact cfB_lt
theorem swoB (S : Ts) : SWO (ltOf (cfB S)) where
  irrefl x := by rw [ltB]; exact decide_eq_false (fun h => by unfold befB at h; omega)
  trans x y z h1 h2 := by
    rw [ltB] at *
    have h3 := of_decide_eq_true h1
    have h4 := of_decide_eq_true h2
    refine decide_eq_true ?_
    unfold befB at *
    omega
  ntrans x y z h1 h2 := by
    rw [ltB] at *
    have h3 := of_decide_eq_false h1
    have h4 := of_decide_eq_false h2
    refine decide_eq_false ?_
    unfold befB at *
    omega
def insB (S : Ts) (n : Int) : List Int → List Int
  | [] => [n]
  | a :: l => if befB S a n then a :: insB S n l else n :: a :: l
def isrt (S : Ts) : List Int → List Int
  | [] => []
  | a :: l => insB S a (isrt S l)
def srtB (S : Ts) : List Int := isrt S (nums S.R 2)
theorem insB_perm (S : Ts) (n : Int) : ∀ l, (insB S n l).Perm (n :: l)
  | [] => List.Perm.refl _
  | a :: l => by
    unfold insB
    split
    · exact ((insB_perm S n l).cons a).trans (List.Perm.swap n a l)
    · exact List.Perm.refl _
theorem isrt_perm (S : Ts) : ∀ l, (isrt S l).Perm l
  | [] => List.Perm.refl _
  | a :: l => (insB_perm S a _).trans ((isrt_perm S l).cons a)
theorem insB_le {S : Ts} {n : Int} : ∀ {l : List Int}, l.Pairwise (fun a b => ¬ befB S b a) → (insB S n l).Pairwise fun a b => ¬ befB S b a
  | [], _ => List.pairwise_singleton _ _
  | a :: l, h => by
    rw [List.pairwise_cons] at h
    unfold insB
    split
    · rename_i hb
      rw [List.pairwise_cons]
      refine ⟨fun x hx => ?_, insB_le h.2⟩
      rcases List.mem_cons.1 ((insB_perm S n l).mem_iff.1 hx) with rfl | hx
      · unfold befB at hb ⊢; omega
      · exact h.1 x hx
    · rename_i hb
      rw [List.pairwise_cons]
      refine ⟨fun x hx => ?_, List.pairwise_cons.2 h⟩
      rcases List.mem_cons.1 hx with rfl | hx
      · exact hb
      · have h1 := h.1 x hx
        unfold befB at hb h1 ⊢
        omega
theorem isrt_le (S : Ts) : ∀ l, (isrt S l).Pairwise fun a b => ¬ befB S b a
  | [] => List.Pairwise.nil
  | _ :: l => insB_le (isrt_le S l)
theorem srtB_perm (S : Ts) : (srtB S).Perm (nums S.R 2) := isrt_perm S _
theorem srtB_len (S : Ts) : (srtB S).length = (nums S.R 2).length := (srtB_perm S).length_eq
theorem srtB_uniq {S : Ts} {M : List Int} (h1 : M.Perm (nums S.R 2)) (h2 : M.Pairwise fun a b => ltOf (cfB S) b a = false) : M = srtB S := by
  refine List.Perm.eq_of_pairwise (le := fun a b => ¬ befB S b a) ?_ (h2.imp fun h => ?_) (isrt_le S _) (h1.trans (srtB_perm S).symm)
  · intro a b _ _ h3 h4
    unfold befB at h3 h4
    omega
  · rw [ltB] at h
    exact of_decide_eq_false h
theorem mem_nums {R : List Rs} {st n : Int} : n ∈ nums R st ↔ ∃ (i : Nat) (r : Rs), R[i]? = some r ∧ r.st = st ∧ n = (i : Int) + 1 := by
  unfold nums numsT
  simp only [List.mem_map, List.mem_filter, List.mem_range, Option.any_eq_true, beq_iff_eq]
  constructor
  · rintro ⟨i, ⟨_, r, h1, h2⟩, rfl⟩
    exact ⟨i, r, h1, h2, rfl⟩
  · rintro ⟨i, r, h1, h2, rfl⟩
    exact ⟨i, ⟨(List.getElem?_eq_some_iff.1 h1).1, r, h1, h2⟩, rfl⟩
theorem getR_some {S : Ts} {i : Nat} {r : Rs} (h : S.R[i]? = some r) : getR S ((i : Int) + 1) = r := by
  unfold getR
  rw [if_pos (by omega), show ((i : Int) + 1 - 1).toNat = i by omega, h]
  rfl
theorem mem_srt {S : Ts} {n : Int} : n ∈ srtB S ↔ nE S n = 0 ∧ (getR S n).st = 2 := by
  rw [(srtB_perm S).mem_iff, mem_nums]
  constructor
  · rintro ⟨i, r, h1, h2, rfl⟩
    rw [getR_some h1]
    refine ⟨if_pos ?_, h2⟩
    have := (List.getElem?_eq_some_iff.1 h1).1
    omega
  · rintro ⟨h1, h2⟩
    unfold nE at h1
    split at h1
    · rename_i h3
      refine ⟨(n - 1).toNat, getR S n, ?_, h2, by omega⟩
      exact getR_at h3
    · omega
theorem nums_nd (R : List Rs) (st : Int) : (nums R st).Nodup := by
  unfold nums numsT
  refine List.Pairwise.map _ (fun a b h => ?_) ((List.nodup_range).filter _)
  omega
theorem srt_nd (S : Ts) : (srtB S).Nodup := (srtB_perm S).nodup_iff.2 (nums_nd _ _)
def dueB (S : Ts) (now most : Int) : List Int := ((srtB S).takeWhile fun n => decide (nxR S n ≤ now)).take most.toNat
theorem tw_take {α : Type} {p : α → Bool} : ∀ {L : List α} {i : Nat}, (∀ (j : Nat) (x : α), j < i → L[j]? = some x → p x = true) → i ≤ L.length → (∀ x, L[i]? = some x → p x = false) → L.takeWhile p = L.take i
  | [], _, _, _, _ => by simp
  | a :: L, 0, _, _, h => by simp [h a rfl]
  | a :: L, i + 1, h1, h2, h3 => by
    have h4 := tw_take (L := L) (i := i) (p := p) (fun j x hj hx => h1 (j + 1) x (by omega) (by rwa [List.getElem?_cons_succ])) (by simpa using h2) (fun x hx => h3 x (by rwa [List.getElem?_cons_succ]))
    rw [List.takeWhile_cons, if_pos (h1 0 a (by omega) rfl), List.take_succ_cons, h4]
theorem tw_mem {α : Type} {p : α → Bool} {x : α} : ∀ {L : List α}, x ∈ L.takeWhile p → p x = true
  | [], h => by simp at h
  | a :: L, h => by
    rw [List.takeWhile_cons] at h
    split at h
    · rcases List.mem_cons.1 h with rfl | h
      · assumption
      · exact tw_mem h
    · cases h
theorem tw_most {α : Type} {p : α → Bool} : ∀ {L : List α} {i : Nat}, (∀ (j : Nat) (x : α), j < i → L[j]? = some x → p x = true) → i ≤ L.length → (L.takeWhile p).take i = L.take i
  | [], _, _, _ => by simp
  | a :: L, 0, _, _ => by simp
  | a :: L, i + 1, h1, h2 => by
    have h4 := tw_most (L := L) (i := i) (p := p) (fun j x hj hx => h1 (j + 1) x (by omega) (by rwa [List.getElem?_cons_succ])) (by simpa using h2)
    rw [List.takeWhile_cons, if_pos (h1 0 a (by omega) rfl), List.take_succ_cons, List.take_succ_cons, h4]
theorem due_stop {S : Ts} {now most : Int} {i : Nat} (h1 : ∀ (j : Nat) (n : Int), j < i → (srtB S)[j]? = some n → nxR S n ≤ now) (h2 : i ≤ (srtB S).length) (hm : (i : Int) ≤ most) (h3 : (∀ n, (srtB S)[i]? = some n → now < nxR S n) ∨ (i : Int) = most) : dueB S now most = (srtB S).take i := by
  have h1' : ∀ (j : Nat) (n : Int), j < i → (srtB S)[j]? = some n → decide (nxR S n ≤ now) = true := fun j n hj hn => decide_eq_true (h1 j n hj hn)
  unfold dueB
  rcases h3 with h3 | h3
  · rw [tw_take h1' h2 (fun x hx => decide_eq_false (by have := h3 x hx; omega)), List.take_take, Nat.min_eq_right (by omega)]
  · rw [show most.toNat = i by omega]
    exact tw_most h1' h2
theorem mem_due {S : Ts} {now most n : Int} (h : n ∈ dueB S now most) : nE S n = 0 ∧ (getR S n).st = 2 ∧ nxR S n ≤ now := by
  have h1 := List.mem_of_mem_take h
  have h2 := tw_mem h1
  have h3 := mem_srt.1 ((List.takeWhile_sublist _).mem h1)
  exact ⟨h3.1, h3.2, of_decide_eq_true h2⟩
theorem due_nd (S : Ts) (now most : Int) : (dueB S now most).Nodup := ((srt_nd S).sublist (List.takeWhile_sublist _)).sublist (List.take_sublist _ _)
theorem due_len (S : Ts) (now : Int) {most : Int} (h : 0 ≤ most) : ((dueB S now most).length : Int) ≤ most := by
  unfold dueB
  rw [List.length_take]
  omega
theorem nums_le (R : List Rs) (st : Int) : (nums R st).length ≤ R.length := by
  unfold nums numsT
  rw [List.length_map]
  exact Nat.le_trans (List.length_filter_le _ _) (by rw [List.length_range]; exact Nat.le_refl _)
theorem due_le (S : Ts) (now most : Int) : (dueB S now most).length ≤ (srtB S).length := by
  unfold dueB
  exact Nat.le_trans (List.take_sublist _ _).length_le (List.takeWhile_sublist _).length_le
def wtN (base cap : Int) : Nat → Int
  | 0 => base
  | k + 1 => min (2 * wtN base cap k) cap
def wtB (tries base cap : Int) : Int := wtN base cap (tries - 1).toNat
theorem wtN_bd {base cap : Int} (h : 1 ≤ base ∧ base ≤ cap) : ∀ k, 1 ≤ wtN base cap k ∧ wtN base cap k ≤ cap
  | 0 => ⟨h.1, h.2⟩
  | k + 1 => by
    have := wtN_bd h k
    unfold wtN
    omega
def bkE (base cap : Int) : Int := if base < 1 ∨ cap < base ∨ 1048576 < cap then 2 else 0
def triE (r : Rs) (a now wt : Int) : Int := if a = 2 ∧ (1099511627776 - wt < now ∨ 10000 ≤ r.tr) then 17 else 0
def triR (r : Rs) (a now wt : Int) : Rs := if a = 1 then { r with st := 3, nx := 0 } else if a = 3 then { r with st := 4, nx := 0 } else { r with tr := r.tr + 1, nx := now + wt }
structure Cf where
  bt : Int
  ba : Int
  cp : Int
def triX (r : Rs) (a now wt : Int) : Rs := if triE r a now wt = 0 then triR r a now wt else rs0
theorem triR_out (r : Rs) (a now wt : Int) : (triR r a now wt).out = r.out := by
  unfold triR
  split
  · rfl
  · split <;> rfl
theorem triR_tag (r : Rs) (a now wt : Int) : (triR r a now wt).tag = r.tag := by
  unfold triR
  split
  · rfl
  · split <;> rfl
theorem triX_ok {r : Rs} {a now wt : Int} (h : triE r a now wt = 0) : triX r a now wt = triR r a now wt ∧ (triX r a now wt).out.2.2 = r.out.2.2 ∧ (triX r a now wt).tag = r.tag := by
  have h1 : triX r a now wt = triR r a now wt := if_pos h
  rw [h1, triR_out, triR_tag]
  exact ⟨rfl, rfl, rfl⟩
def cloR (r : Rs) (why now : Int) : Rs := { r with st := 2, why := why, nx := now }
theorem tagE_len {L : List UInt8} (h : tagE L = 0) : L.length ≤ 96 := by
  unfold tagE at h
  split at h
  · omega
  · omega
theorem res_ok {r : Rs} (h : resR r = 0) : posP r.out.1 r.out.2.1 r.out.2.2 r.st r.why r.tr r.nx ∧ tagE r.tag = 0 := by
  unfold resR resE at h
  split at h
  · exact ⟨‹_›, h⟩
  · omega
theorem res_len {r : Rs} (h : resR r = 0) : r.tag.length ≤ 96 := tagE_len (res_ok h).2
theorem wf_get {n : Nat} {S : Ts} {v : Int} (W : Wf n S) (h : nE S v = 0) : resR (getR S v) = 0 ∧ 0 ≤ (getR S v).out.2.2 ∧ (getR S v).out.2.2 ≤ 4294967295 ∧ (getR S v).tag.length ≤ 96 := by
  unfold nE at h
  split at h
  · rename_i h3
    have hm := List.mem_of_getElem? (getR_at h3)
    have h1 := W.res _ hm
    have h2 := (res_ok h1).1
    unfold posP at h2
    exact ⟨h1, by omega, W.og _ hm, res_len h1⟩
  · omega
theorem takeB_go {α : Type} {L : List α} {i : Nat} {x : α} (h : L[i]? = some x) : L.take i ++ [x] = L.take (i + 1) := by
  rw [List.take_add_one, h]
  rfl
theorem takeB_at {α : Type} {L : List α} {d : α} {i : Nat} (h : i < L.length) : L.take i ++ [L.getD i d] = L.take (i + 1) := by
  have h1 : L[i]? = some (L.getD i d) := by rw [List.getD_eq_getElem?_getD, List.getElem?_eq_getElem h]; rfl
  exact takeB_go h1
abbrev Pw := Ts × Wst
def wtOf (c : Cf) (r : Rs) : Int := wtB (min (r.tr + 1) 64) c.ba c.cp
def stpB (c : Cf) (now : Int) (X : Pw) (n : Int) : Pw :=
  (if triE (getR X.1 n) (relA X.2 (getR X.1 n).out (getR X.1 n).why) now (wtOf c (getR X.1 n)) = 0 then setS X.1 n (triR (getR X.1 n) (relA X.2 (getR X.1 n).out (getR X.1 n).why) now (wtOf c (getR X.1 n))) else X.1, relS X.2 (getR X.1 n).out (getR X.1 n).why)
def attB (now : Int) (X : Pw) (n : Int) : At := ⟨now, (getR X.1 n).out, (getR X.1 n).why, relA X.2 (getR X.1 n).out (getR X.1 n).why⟩
def runB (c : Cf) (now : Int) (X : Pw) (l : List Int) : Pw := l.foldl (stpB c now) X
def stB (c : Cf) (now : Int) (X : Pw) (l : List Int) (i : Nat) : Pw := runB c now X (l.take i)
def atsB (c : Cf) (now : Int) (X : Pw) (l : List Int) : List At := (List.range l.length).map fun i => attB now (stB c now X l i) (l.getD i 0)
theorem stB_succ {c : Cf} {now : Int} {X : Pw} {l : List Int} {i : Nat} {n : Int} (h : l[i]? = some n) : stB c now X l (i + 1) = stpB c now (stB c now X l i) n := by
  unfold stB runB
  rw [List.take_add_one, h, List.foldl_append]
  rfl
theorem stB_end (c : Cf) (now : Int) (X : Pw) (l : List Int) : stB c now X l l.length = runB c now X l := by
  unfold stB
  rw [List.take_length]
theorem ats_at {c : Cf} {now : Int} {X : Pw} {l : List Int} {i : Nat} {n : Int} (h : l[i]? = some n) : (atsB c now X l)[i]? = some (attB now (stB c now X l i) n) := by
  have hl := (List.getElem?_eq_some_iff.1 h).1
  unfold atsB
  rw [List.getElem?_map, List.getElem?_range hl]
  show some (attB now (stB c now X l i) (l.getD i 0)) = _
  rw [List.getD_eq_getElem?_getD, h]
  rfl
theorem ats_len (c : Cf) (now : Int) (X : Pw) (l : List Int) : (atsB c now X l).length = l.length := by
  unfold atsB
  rw [List.length_map, List.length_range]
def at0 : At := ⟨0, (0, 0, 0), 0, 0⟩
abbrev vAt (a : At) : Value := .agg #[.int .i64 a.at_, .int .i64 a.out.1, .int .i64 a.out.2.1, .int .u32 a.out.2.2, .int .i64 a.why, .int .i64 a.ans]
theorem relA_bd {S : Wst} {o : Ky} {y : Int} (hW : WOk S) (h : relE S o y = 0) : 1 ≤ relA S o y ∧ relA S o y ≤ 3 := by
  unfold relA
  rw [if_pos h]
  exact headD_bd hW.qb
def RunOk (c : Cf) (now : Int) (X : Pw) (l : List Int) : Prop := ∀ (i : Nat) (n : Int), l[i]? = some n →
  nE (stB c now X l i).1 n = 0 ∧ (getR (stB c now X l i).1 n).st = 2 ∧ relE (stB c now X l i).2 (getR (stB c now X l i).1 n).out (getR (stB c now X l i).1 n).why = 0
def cfgE (c : Cf) : Int := if c.bt < 1 ∨ 64 < c.bt ∨ bkE c.ba c.cp ≠ 0 then 2 else 0
def rnS (c : Cf) (X : Pw) : Pw := if cfgE c = 0 then runB c X.2.now X (dueB X.1 X.2.now c.bt) else X
def rnL (c : Cf) (X : Pw) : List At := if cfgE c = 0 then atsB c X.2.now X (dueB X.1 X.2.now c.bt) else []
theorem rel_now (S : Wst) (o : Ky) (y : Int) : (relS S o y).now = S.now := by
  unfold relS Wst.put
  split
  · rfl
  · split
    · split
      · rfl
      · split <;> rfl
    · rfl
theorem stB_now {c : Cf} {now : Int} {l : List Int} : ∀ {X : Pw} {i : Nat}, (stB c now X l i).2.now = X.2.now := by
  intro X i
  unfold stB runB
  generalize l.take i = m
  induction m generalizing X with
  | nil => rfl
  | cons a m ih => rw [List.foldl_cons, ih]; exact rel_now _ _ _
end Go.Proofs.YtehlamblpekmkaaGreatDoor
