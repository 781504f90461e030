/-
  Attempts by numbers: what the laws' 'tried' leaves behind. No program in sight.
-/
import Derived.Test.YtfoliffeieeihaaGreatDoorBundle30
import Derived.Test.YtfoliffeieeihaaGreatDoorBundle18
import Derived.Test.YtfoliffeieeihaaGreatDoorBundle35
namespace Go.Proofs.YtfoliffeieeihaaGreatDoor
def nmT (k : Nat) : List UInt8 := if k = 1 then [109, 97, 105, 110] else if k = 2 then [120, 32, 121] else [97]
-- one attempt more
/-- How leaks stay. -/
structure Sty (L M : List Lk) : Prop where
  lo : L.length ≤ M.length
  hi : M.length ≤ L.length + 1
  el : ∀ (k : Nat) x y, L[k]? = some x → M[k]? = some y → x.tag = y.tag ∧ x.out.1 = y.out.1 ∧ x.out.2.1 = y.out.2.1 ∧ x.out.2.2 = y.out.2.2 ∧ x.at_ = y.at_ ∧ (x.st = y.st ∨ x.st = 2)
-- the first attempt for a resource, and the last one
theorem lks_skip {S : Rp} {i : Nat} {a : At} (ha : S.A[i]? = some a) (h : ¬ (isF S.A i a = true ∧ a.why = 3)) : lksN S (i + 1) = lksN S i := by
  simp only [lksN, lkAt, ha]
  rw [if_neg h, List.append_nil]
-- ended
/-- The laid names. -/
structure Ln (g nb no : Nat) (wo : World) : Prop where
  sl : wo.cell? ⟨g, 0, none⟩ = some (.slice (some ⟨nb, no, none⟩) 4 4)
  el : ∀ k : Nat, k < 4 → wo.cell? ⟨nb, no + k, none⟩ = some (.string (St (nmT k)))
theorem ky3 {a b : Ky} (h1 : a.1 = b.1) (h2 : a.2.1 = b.2.1) (h3 : a.2.2 = b.2.2) : a = b := Prod.ext h1 (Prod.ext h2 h3)
end Go.Proofs.YtfoliffeieeihaaGreatDoor

/-
  Counts of tags, lines of texts. No program in sight.
-/
namespace Go.Proofs.YtfoliffeieeihaaGreatDoor
def sumC (L : List Lk) (T : List (List UInt8)) : Nat := (T.map (cntL L)).foldr (· + ·) 0
theorem sumC_cons (L : List Lk) (t : List UInt8) (T : List (List UInt8)) : sumC L (t :: T) = cntL L t + sumC L T := rfl
theorem cntL_cons (x : Lk) (L : List Lk) (t : List UInt8) : cntL (x :: L) t = (if x.tag = t then 1 else 0) + cntL L t := by
  unfold cntL
  rw [List.filter_cons]
  by_cases h : x.tag = t
  · simp [h]; omega
  · simp [h]
theorem sumC_out {x : Lk} {L : List Lk} {T : List (List UInt8)} (h : x.tag ∉ T) : sumC (x :: L) T = sumC L T := by
  induction T with
  | nil => rfl
  | cons t T ih =>
    rw [sumC_cons, sumC_cons, cntL_cons, if_neg (fun e => h (by simp [e])), ih fun q => h (by simp [q])]
    omega
theorem sumC_in {x : Lk} {L : List Lk} {T : List (List UInt8)} (hn : T.Nodup) (h : x.tag ∈ T) : sumC (x :: L) T = sumC L T + 1 := by
  induction T with
  | nil => cases h
  | cons t T ih =>
    rw [List.nodup_cons] at hn
    rw [sumC_cons, sumC_cons, cntL_cons]
    rcases List.mem_cons.1 h with e | e
    · rw [if_pos e, sumC_out (by rw [e]; exact hn.1)]
      omega
    · rw [if_neg (fun (q : x.tag = t) => hn.1 (by rw [← q]; exact e)), ih hn.2 e]
      omega
theorem sumC_all {T : List (List UInt8)} (hn : T.Nodup) : ∀ {L : List Lk}, (∀ x ∈ L, x.tag ∈ T) → sumC L T = L.length
  | [], _ => by
    induction T with
    | nil => rfl
    | cons t T ih => rw [sumC_cons, ih (List.nodup_cons.1 hn).2 (fun _ h => nomatch h)]; rfl
  | x :: L, h => by
    rw [sumC_in hn (h x (by simp)), sumC_all hn fun y hy => h y (by simp [hy])]
    rfl
theorem tg_nodup {S : Rp} {T : List (List UInt8)} (h : Tg S T) : T.Nodup := h.so.imp fun {a b} hab (e : a = b) => List.lt_irrefl b (by rw [e] at hab; exact hab)
theorem tg_sum {S : Rp} {T : List (List UInt8)} (h : Tg S T) : sumC (lks S) T = (lks S).length := sumC_all (tg_nodup h) fun x hx => (h.mem x.tag).2 ⟨x, hx, rfl⟩
theorem tg_one_le {S : Rp} {T : List (List UInt8)} (h : Tg S T) {i : Nat} {t : List UInt8} (ht : T[i]? = some t) : 1 ≤ cntL (lks S) t ∧ cntL (lks S) t ≤ (lks S).length := by
  obtain ⟨x, hx, e⟩ := (h.mem t).1 (List.mem_of_getElem? ht)
  unfold cntL
  exact ⟨List.length_pos_of_mem (List.mem_filter.2 ⟨hx, decide_eq_true e⟩), List.length_filter_le _ _⟩
-- lines
theorem lks_at_most (S : Rp) : (lks S).length ≤ S.A.length := by
  have : ∀ i, (lksN S i).length ≤ i := fun i => by
    induction i with
    | zero => exact Nat.le_refl _
    | succ i ih =>
      simp only [lksN, List.length_append]
      have h2 : (lkAt S i).length ≤ 1 := by
        unfold lkAt
        split
        · exact Nat.zero_le _
        · split
          · exact Nat.le_refl _
          · exact Nat.zero_le _
      omega
  exact this _
end Go.Proofs.YtfoliffeieeihaaGreatDoor
