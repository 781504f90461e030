/-
  The leaks of resources with tags, and a ledger: opened one behind the other, tried one behind the other; and the laws' limits. No program in sight.
-/
import Derived.Test.YtfoliffeieeihaaGreatDoorBundle38
namespace Go.Proofs.YtfoliffeieeihaaGreatDoor
def opN (Os : List Ky) (Ts : List (List UInt8)) : Nat → Rp
  | 0 => ⟨[], []⟩
  | i + 1 => match Os[i]?, Ts[i]? with
    | some o, some t => opdS (opN Os Ts i) o t
    | _, _ => opN Os Ts i
def opF (Os : List Ky) (Ts : List (List UInt8)) : Nat → Int
  | 0 => 0
  | i + 1 => if opF Os Ts i ≠ 0 then opF Os Ts i else match Os[i]?, Ts[i]? with
    | some o, some t => opdE (opN Os Ts i) o t
    | _, _ => 0
def trN (S : Rp) (As : List At) : Nat → Rp
  | 0 => S
  | i + 1 => match As[i]? with
    | some a => trS (trN S As i) a
    | none => trN S As i
def trF (S : Rp) (As : List At) : Nat → Int
  | 0 => 0
  | i + 1 => if trF S As i ≠ 0 then trF S As i else match As[i]? with
    | some a => trE (trN S As i) a
    | none => 0
def frE (Os : List Ky) (Ts : List (List UInt8)) (As : List At) : Int :=
  if Os.length ≠ Ts.length then 2 else if opF Os Ts Os.length ≠ 0 then opF Os Ts Os.length else trF (opN Os Ts Os.length) As As.length
def frL (Os : List Ky) (Ts : List (List UInt8)) (As : List At) : List Lk := if frE Os Ts As = 0 then lks (trN (opN Os Ts Os.length) As As.length) else []
section
variable {Os : List Ky} {Ts : List (List UInt8)} {As : List At} {i : Nat} {o : Ky} {t : List UInt8} {a : At} {S : Rp}
theorem opN_s (ho : Os[i]? = some o) (ht : Ts[i]? = some t) : opN Os Ts (i + 1) = opdS (opN Os Ts i) (o.1, o.2.1, o.2.2) t := by simp only [opN, ho, ht]
theorem opF_s (ho : Os[i]? = some o) (ht : Ts[i]? = some t) (h : opF Os Ts i = 0) : opF Os Ts (i + 1) = opdE (opN Os Ts i) (o.1, o.2.1, o.2.2) t := by
  simp only [opF, ho, ht]
  rw [if_neg (fun q => q h)]
theorem opF_stay {e : Int} (he : opF Os Ts i = e) (h : e ≠ 0) : ∀ j, i ≤ j → opF Os Ts j = e := by
  intro j hj
  induction hj with
  | refl => exact he
  | step _ ih =>
    simp only [opF]
    rw [if_pos (by rw [ih]; exact h), ih]
theorem opN_A : ∀ i, (opN Os Ts i).A = []
  | 0 => rfl
  | i + 1 => by
    simp only [opN]
    split
    · rw [opdS_len, opN_A i]
    · exact opN_A i
theorem trN_s (ha : As[i]? = some a) : trN S As (i + 1) = trS (trN S As i) ⟨a.at_, (a.out.1, a.out.2.1, a.out.2.2), a.why, a.ans⟩ := by simp only [trN, ha]
theorem trF_s (ha : As[i]? = some a) (h : trF S As i = 0) : trF S As (i + 1) = trE (trN S As i) ⟨a.at_, (a.out.1, a.out.2.1, a.out.2.2), a.why, a.ans⟩ := by
  simp only [trF, ha]
  rw [if_neg (fun q => q h)]
theorem trF_stay {e : Int} (he : trF S As i = e) (h : e ≠ 0) : ∀ j, i ≤ j → trF S As j = e := by
  intro j hj
  induction hj with
  | refl => exact he
  | step _ ih =>
    simp only [trF]
    rw [if_pos (by rw [ih]; exact h), ih]
theorem trN_len : ∀ i, (trN S As i).A.length ≤ S.A.length + i
  | 0 => Nat.le_refl _
  | i + 1 => by
    have := trN_len i
    simp only [trN]
    split
    · unfold trS
      split
      · rw [List.length_append]
        show _ + 1 ≤ _
        omega
      · omega
    · omega
theorem trN_op (i : Nat) {n : Nat} : (trN (opN Os Ts n) As i).A.length ≤ i := by
  have h1 := trN_len (S := opN Os Ts n) (As := As) i
  have h2 := opN_A (Os := Os) (Ts := Ts) n
  rw [h2] at h1
  simp only [List.length_nil] at h1
  omega
theorem frL_no {e : Int} (h : frE Os Ts As = e) (he : e ≠ 0) : frE Os Ts As = e ∧ frL Os Ts As = [] := ⟨h, if_neg (by rw [h]; exact he)⟩
theorem fr_len (h : Os.length ≠ Ts.length) : frE Os Ts As = 2 ∧ frL Os Ts As = [] := frL_no (if_pos h) (by decide)
theorem fr_op {e : Int} {n : Nat} (hn : Os.length = n) (hl : Os.length = Ts.length) (hi : i < n) (he : opF Os Ts (i + 1) = e) (h : e ≠ 0) : frE Os Ts As = e ∧ frL Os Ts As = [] := by
  subst hn
  refine frL_no ?_ h
  unfold frE
  have := opF_stay he h Os.length hi
  rw [if_neg (fun q => q hl), this, if_pos h]
theorem fr_tr {e : Int} {n m : Nat} (hn : Os.length = n) (hm : As.length = m) (hl : Os.length = Ts.length) (h0 : opF Os Ts n = 0) (hi : i < m) (he : trF (opN Os Ts n) As (i + 1) = e) (h : e ≠ 0) : frE Os Ts As = e ∧ frL Os Ts As = [] := by
  subst hn
  subst hm
  refine frL_no ?_ h
  unfold frE
  rw [if_neg (fun q => q hl), if_neg (fun q => q h0), trF_stay he h As.length hi]
theorem fr_ok {n m : Nat} (hn : Os.length = n) (hm : As.length = m) (hl : Os.length = Ts.length) (h0 : opF Os Ts n = 0) (h1 : trF (opN Os Ts n) As m = 0) : frE Os Ts As = 0 ∧ frL Os Ts As = lks (trN (opN Os Ts n) As m) := by
  subst hn
  subst hm
  have : frE Os Ts As = 0 := by
    unfold frE
    rw [if_neg (fun q => q hl), if_neg (fun q => q h0), h1]
  exact ⟨this, if_pos this⟩
end
-- the law's own resources
end Go.Proofs.YtfoliffeieeihaaGreatDoor
