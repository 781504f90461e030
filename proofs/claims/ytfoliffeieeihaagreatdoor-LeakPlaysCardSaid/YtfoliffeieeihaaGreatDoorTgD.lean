/-
  Tags as the document reads them: runes out of bytes, one by one. The same tags. No program in sight.
-/
import Derived.Test.YtfoliffeieeihaaGreatDoorBundle16
namespace Go.Proofs.YtfoliffeieeihaaGreatDoor
def contB (L : List UInt8) (j : Nat) : Option Nat := if j < L.length ∧ (L.getD j 0).toNat / 64 = 2 then some ((L.getD j 0).toNat % 64) else none
def decF (b0 : Nat) (c1 c2 c3 : Option Nat) : Nat × Nat :=
  if b0 < 128 then (b0, 1)
  else if b0 / 32 = 6 then (match c1 with
    | some d1 => if 128 ≤ b0 % 32 * 64 + d1 then (b0 % 32 * 64 + d1, 2) else (0, 0)
    | none => (0, 0))
  else if b0 / 16 = 14 then (match c1, c2 with
    | some d1, some d2 => if 2048 ≤ b0 % 16 * 4096 + d1 * 64 + d2 ∧ ¬ (55296 ≤ b0 % 16 * 4096 + d1 * 64 + d2 ∧ b0 % 16 * 4096 + d1 * 64 + d2 ≤ 57343) then (b0 % 16 * 4096 + d1 * 64 + d2, 3) else (0, 0)
    | _, _ => (0, 0))
  else if b0 / 8 = 30 then (match c1, c2, c3 with
    | some d1, some d2, some d3 => if 65536 ≤ b0 % 8 * 262144 + d1 * 4096 + d2 * 64 + d3 ∧ b0 % 8 * 262144 + d1 * 4096 + d2 * 64 + d3 ≤ 1114111 then (b0 % 8 * 262144 + d1 * 4096 + d2 * 64 + d3, 4) else (0, 0)
    | _, _, _ => (0, 0))
  else (0, 0)
/-- The rune that begins at a byte, and how many bytes it has; 0 bytes: there is none. -/
def runeD (L : List UInt8) (i : Nat) : Nat × Nat := decF (L.getD i 0).toNat (contB L (i + 1)) (contB L (i + 2)) (contB L (i + 3))
theorem get_st (L : List UInt8) (j : Nat) : (St L).get! j = L.getD j 0 := by
  show L.toArray[j]! = L.getD j 0
  rw [getElem!_def, List.getElem?_toArray, List.getD_eq_getElem?_getD]
  cases L[j]? <;> rfl
theorem contB_dec (L : List UInt8) (i k : Nat) : (decide (i + k < (St L).size) && ((St L).get! (i + k)).toNat / 64 == 2) = (contB L (i + k)).isSome := by
  rw [get_st, st_size]
  unfold contB
  by_cases h1 : i + k < L.length
  · by_cases h2 : (L.getD (i + k) 0).toNat / 64 = 2
    · rw [if_pos ⟨h1, h2⟩, decide_eq_true h1, h2]; rfl
    · rw [if_neg (fun h => h2 h.2), decide_eq_true h1, Bool.true_and]
      simpa using h2
  · rw [if_neg (fun h => h1 h.1), decide_eq_false h1]; rfl
theorem contB_some {L : List UInt8} {j d : Nat} (h : contB L j = some d) : d = (L.getD j 0).toNat % 64 ∧ d < 64 := by
  unfold contB at h
  split at h
  · have := Option.some.inj h
    omega
  · cases h
set_option maxRecDepth 100000 in
theorem runeD_dec (L : List UInt8) (i : Nat) : runeD L i = if dec L i = (65533, 1) then (0, 0) else dec L i := by
  have h1 := contB_dec L i 1
  have h2 := contB_dec L i 2
  have h3 := contB_dec L i 3
  unfold dec Utf8.decode runeD decF
  simp only [Nat.add_zero, h1, h2, h3]
  simp only [get_st]
  generalize hb : (L.getD i 0).toNat = b0
  have q1 : ∀ d, contB L (i + 1) = some d → d = (L.getD (i + 1) 0).toNat % 64 ∧ d < 64 := fun d h => contB_some h
  have q2 : ∀ d, contB L (i + 2) = some d → d = (L.getD (i + 2) 0).toNat % 64 ∧ d < 64 := fun d h => contB_some h
  have q3 : ∀ d, contB L (i + 3) = some d → d = (L.getD (i + 3) 0).toNat % 64 ∧ d < 64 := fun d h => contB_some h
  generalize (L.getD (i + 1) 0).toNat % 64 = e1 at *
  generalize (L.getD (i + 2) 0).toNat % 64 = e2 at *
  generalize (L.getD (i + 3) 0).toNat % 64 = e3 at *
  have v1 : ∀ c : Nat, Utf8.valid (c : Int) = decide (c < 55296 ∨ (57344 ≤ c ∧ c ≤ 1114111)) := fun c => by
    unfold Utf8.valid
    rw [Bool.eq_iff_iff]
    simp only [Bool.or_eq_true, Bool.and_eq_true, decide_eq_true_eq]
    omega
  by_cases a0 : b0 < 128
  · rw [if_pos a0, if_pos a0, if_neg (by simp only [Prod.mk.injEq]; omega)]
  · rw [if_neg a0, if_neg a0]
    by_cases a1 : b0 / 32 = 6
    · rw [if_pos a1]
      cases hc1 : contB L (i + 1) with
      | none => simp [a1, show ¬ b0 / 16 = 14 by omega, show ¬ b0 / 8 = 30 by omega, Utf8.runeError]
      | some d1 =>
        obtain ⟨rfl, hd⟩ := q1 d1 hc1
        by_cases hc : 128 ≤ b0 % 32 * 64 + d1
        · simp only [a1, hc, Option.isSome_some, Bool.and_true, beq_self_eq_true, if_true, ge_iff_le]
          rw [if_neg (by simp only [Prod.mk.injEq]; omega)]
        · simp [a1, hc, Utf8.runeError]
    · rw [if_neg a1]
      by_cases a2 : b0 / 16 = 14
      · rw [if_pos a2]
        cases hc1 : contB L (i + 1) with
        | none => simp [a1, a2, show ¬ b0 / 8 = 30 by omega, Utf8.runeError]
        | some d1 =>
          obtain ⟨rfl, hd1⟩ := q1 d1 hc1
          cases hc2 : contB L (i + 2) with
          | none => simp [a1, a2, show ¬ b0 / 8 = 30 by omega, Utf8.runeError]
          | some d2 =>
            obtain ⟨rfl, hd2⟩ := q2 d2 hc2
            show (if 2048 ≤ b0 % 16 * 4096 + d1 * 64 + d2 ∧ ¬ (55296 ≤ b0 % 16 * 4096 + d1 * 64 + d2 ∧ b0 % 16 * 4096 + d1 * 64 + d2 ≤ 57343) then (b0 % 16 * 4096 + d1 * 64 + d2, 3) else (0, 0)) = _
            obtain ⟨c, hcd⟩ : ∃ c, b0 % 16 * 4096 + d1 * 64 + d2 = c := ⟨_, rfl⟩
            simp only [hcd]
            by_cases hc : 2048 ≤ c ∧ ¬ (55296 ≤ c ∧ c ≤ 57343)
            · rw [if_pos hc]
              have hv : Utf8.valid (c : Int) = true := by rw [v1]; exact decide_eq_true (by omega)
              have e1' : (b0 / 32 == 6) = false := by simpa using a1
              have e2' : (b0 / 16 == 14) = true := by simpa using a2
              simp only [e1', e2', hv, ge_iff_le, decide_eq_true hc.1, Option.isSome_some, Bool.and_self, Bool.false_and, Bool.false_eq_true, if_false, if_true]
              rw [if_neg (fun h => absurd (show (3 : Nat) = 1 from congrArg Prod.snd h) (by decide))]
            · rw [if_neg hc]
              by_cases hl : 2048 ≤ c
              · have hv : Utf8.valid (c : Int) = false := by rw [v1]; exact decide_eq_false (by omega)
                simp [a1, a2, hl, hv, Utf8.runeError]
              · simp [a1, a2, hl, Utf8.runeError]
      · rw [if_neg a2]
        by_cases a3 : b0 / 8 = 30
        · rw [if_pos a3]
          cases hc1 : contB L (i + 1) with
          | none => simp [a1, a2, a3, Utf8.runeError]
          | some d1 =>
            obtain ⟨rfl, hd1⟩ := q1 d1 hc1
            cases hc2 : contB L (i + 2) with
            | none => simp [a1, a2, a3, Utf8.runeError]
            | some d2 =>
              obtain ⟨rfl, hd2⟩ := q2 d2 hc2
              cases hc3 : contB L (i + 3) with
              | none => simp [a1, a2, a3, Utf8.runeError]
              | some d3 =>
                obtain ⟨rfl, hd3⟩ := q3 d3 hc3
                show (if 65536 ≤ b0 % 8 * 262144 + d1 * 4096 + d2 * 64 + d3 ∧ b0 % 8 * 262144 + d1 * 4096 + d2 * 64 + d3 ≤ 1114111 then (b0 % 8 * 262144 + d1 * 4096 + d2 * 64 + d3, 4) else (0, 0)) = _
                obtain ⟨c, hcd⟩ : ∃ c, b0 % 8 * 262144 + d1 * 4096 + d2 * 64 + d3 = c := ⟨_, rfl⟩
                simp only [hcd]
                by_cases hc : 65536 ≤ c ∧ c ≤ 1114111
                · rw [if_pos hc]
                  have hv : Utf8.valid (c : Int) = true := by rw [v1]; exact decide_eq_true (by omega)
                  have e1' : (b0 / 32 == 6) = false := by simpa using a1
                  have e2' : (b0 / 16 == 14) = false := by simpa using a2
                  have e3' : (b0 / 8 == 30) = true := by simpa using a3
                  simp only [e1', e2', e3', hv, ge_iff_le, decide_eq_true hc.1, Option.isSome_some, Bool.and_self, Bool.false_and, Bool.false_eq_true, if_false, if_true]
                  rw [if_neg (fun h => absurd (show (4 : Nat) = 1 from congrArg Prod.snd h) (by decide))]
                · rw [if_neg hc]
                  by_cases hl : 65536 ≤ c
                  · have hv : Utf8.valid (c : Int) = false := by rw [v1]; exact decide_eq_false (by omega)
                    simp [a1, a2, a3, hl, hv, Utf8.runeError]
                  · simp [a1, a2, a3, hl, Utf8.runeError]
        · rw [if_neg a3]
          simp [a1, a2, a3, Utf8.runeError]
/-- The runes of bytes from a place on; none: not all are runes. -/
def rnD (L : List UInt8) : Nat → Nat → Option (List Nat)
  | 0, _ => some []
  | f + 1, p => if L.length ≤ p then some [] else if (runeD L p).2 = 0 then none else (rnD L f (p + (runeD L p).2)).map fun l => (runeD L p).1 :: l
theorem rn_end {L : List UInt8} {f p : Nat} (h : L.length ≤ p) : rnD L f p = some [] := by
  cases f with
  | zero => rfl
  | succ f => exact if_pos h
theorem rn_bad {L : List UInt8} {f p : Nat} (h : p < L.length) (hf : L.length ≤ p + f) (hb : (runeD L p).2 = 0) : rnD L f p = none := by
  cases f with
  | zero => omega
  | succ f =>
    show (if L.length ≤ p then _ else _) = _
    rw [if_neg (by omega), if_pos hb]
theorem rn_go {L : List UInt8} {f p : Nat} (h : p < L.length) (hf : L.length ≤ p + f) (hb : (runeD L p).2 ≠ 0) : rnD L f p = (rnD L (f - 1) (p + (runeD L p).2)).map fun l => (runeD L p).1 :: l := by
  cases f with
  | zero => omega
  | succ f =>
    show (if L.length ≤ p then _ else _) = _
    rw [if_neg (by omega), if_neg hb]
    rfl
def badC (c : Nat) : Bool := decide (c < 32 ∨ c = 127)
def tagD (L : List UInt8) : Int := match rnD L L.length 0 with
  | none => 16
  | some l => if l.length < 1 ∨ 24 < l.length then 16 else if l.any badC then 16 else 0
theorem dec_wd (L : List UInt8) (p : Nat) : (runeD L p).2 ≤ 4 := by
  unfold runeD decF
  repeat' split
  all_goals (first | omega | (simp only; omega))
theorem get_take {L : List UInt8} {p : Nat} {a b c : UInt8} (h : (L.drop p).take 3 = [a, b, c]) : L[p]? = some a ∧ L[p + 1]? = some b ∧ L[p + 2]? = some c := by
  have h0 : ((L.drop p).take 3)[0]? = some a := by rw [h]; rfl
  have h1 : ((L.drop p).take 3)[1]? = some b := by rw [h]; rfl
  have h2 : ((L.drop p).take 3)[2]? = some c := by rw [h]; rfl
  rw [List.getElem?_take_of_lt (by omega), List.getElem?_drop] at h0 h1 h2
  exact ⟨h0, h1, h2⟩
set_option maxRecDepth 100000 in
theorem lit_rune (c3 : Option Nat) : decF (UInt8.toNat 239) (some 63) (some 61) c3 = (65533, 3) := by
  show (if (239 : Nat) < 128 then (239, 1) else if 239 / 32 = 6 then _ else if 239 / 16 = 14 then (if 2048 ≤ 239 % 16 * 4096 + 63 * 64 + 61 ∧ ¬ (55296 ≤ 239 % 16 * 4096 + 63 * 64 + 61 ∧ 239 % 16 * 4096 + 63 * 64 + 61 ≤ 57343) then (239 % 16 * 4096 + 63 * 64 + 61, 3) else (0, 0)) else _) = _
  rw [if_neg (by decide), if_neg (by decide), if_pos (by decide), if_pos (by decide)]
/-- A place where no rune is, or one that a tag must not have. -/
theorem bad_iff {L : List UInt8} {p : Nat} (hp : p < L.length) : badR L p ↔ (runeD L p).2 = 0 ∨ badC (runeD L p).1 = true := by
  have hd := runeD_dec L p
  have hw := dec_pos hp
  have hlit : (dec L p).1 = 65533 → (dec L p ≠ (65533, 1)) → (L.drop p).take 3 = [239, 191, 189] := fun h1 h2 => by
    rw [if_neg h2] at hd
    rw [← hd] at h1 hw
    have hlt : ∀ j, (L.getD j 0).toNat < 256 := fun j => (L.getD j 0).toNat_lt
    have hl := hlt p
    unfold runeD decF at h1 hw
    have q1 : ∀ d, contB L (p + 1) = some d → p + 1 < L.length ∧ (L.getD (p + 1) 0).toNat / 64 = 2 ∧ d = (L.getD (p + 1) 0).toNat % 64 := fun d h => by
      unfold contB at h
      split at h
      · rename_i hh; exact ⟨hh.1, hh.2, (Option.some.inj h).symm⟩
      · cases h
    have q2 : ∀ d, contB L (p + 2) = some d → p + 2 < L.length ∧ (L.getD (p + 2) 0).toNat / 64 = 2 ∧ d = (L.getD (p + 2) 0).toNat % 64 := fun d h => by
      unfold contB at h
      split at h
      · rename_i hh; exact ⟨hh.1, hh.2, (Option.some.inj h).symm⟩
      · cases h
    have q3 : ∀ d, contB L (p + 3) = some d → d < 64 := fun d h => (contB_some h).2
    split at h1
    · simp only at h1; omega
    · split at h1
      · split at h1
        · rename_i d1 hc1
          have := q1 d1 hc1
          split at h1
          · simp only at h1; omega
          · simp only at h1; omega
        · simp only at h1; omega
      · split at h1
        · split at h1
          · rename_i d1 d2 hc1 hc2
            obtain ⟨a1, a2, a3⟩ := q1 d1 hc1
            obtain ⟨b1, b2, b3⟩ := q2 d2 hc2
            split at h1
            · simp only at h1
              have e0 : (L.getD p 0).toNat = 239 := by omega
              have e1 : (L.getD (p + 1) 0).toNat = 191 := by omega
              have e2 : (L.getD (p + 2) 0).toNat = 189 := by omega
              have f0 : L.getD p 0 = 239 := UInt8.toNat_inj.1 e0
              have f1 : L.getD (p + 1) 0 = 191 := UInt8.toNat_inj.1 e1
              have f2 : L.getD (p + 2) 0 = 189 := UInt8.toNat_inj.1 e2
              have g0 : L[p]? = some 239 := by rw [List.getElem?_eq_getElem hp, ← f0, List.getD_eq_getElem?_getD, List.getElem?_eq_getElem hp]; rfl
              have g1 : L[p + 1]? = some 191 := by rw [List.getElem?_eq_getElem a1, ← f1, List.getD_eq_getElem?_getD, List.getElem?_eq_getElem a1]; rfl
              have g2 : L[p + 2]? = some 189 := by rw [List.getElem?_eq_getElem b1, ← f2, List.getD_eq_getElem?_getD, List.getElem?_eq_getElem b1]; rfl
              apply List.ext_getElem?
              intro j
              match j with
              | 0 => rw [List.getElem?_take_of_lt (by omega), List.getElem?_drop]; exact g0
              | 1 => rw [List.getElem?_take_of_lt (by omega), List.getElem?_drop]; exact g1
              | 2 => rw [List.getElem?_take_of_lt (by omega), List.getElem?_drop]; exact g2
              | j + 3 => rw [List.getElem?_eq_none (by rw [List.length_take]; omega)]; rfl
            · simp only at h1; omega
          · simp only at h1; omega
        · split at h1
          · split at h1
            · rename_i d1 d2 d3 hc1 hc2 hc3
              have := q1 d1 hc1
              have := q2 d2 hc2
              have := q3 d3 hc3
              split at h1
              · simp only at h1; omega
              · simp only at h1; omega
            · simp only at h1; omega
          · simp only at h1; omega
  have herr : dec L p = (65533, 1) → ¬ (L.drop p).take 3 = [239, 191, 189] := fun h1 h2 => by
    obtain ⟨g0, g1, g2⟩ := get_take h2
    rw [if_pos h1] at hd
    have f0 : L.getD p 0 = 239 := by rw [List.getD_eq_getElem?_getD, g0]; rfl
    have f1 : L.getD (p + 1) 0 = 191 := by rw [List.getD_eq_getElem?_getD, g1]; rfl
    have f2 : L.getD (p + 2) 0 = 189 := by rw [List.getD_eq_getElem?_getD, g2]; rfl
    have c1 : contB L (p + 1) = some 63 := by
      unfold contB
      rw [f1, if_pos ⟨(List.getElem?_eq_some_iff.1 g1).1, by decide⟩]
      rfl
    have c2 : contB L (p + 2) = some 61 := by
      unfold contB
      rw [f2, if_pos ⟨(List.getElem?_eq_some_iff.1 g2).1, by decide⟩]
      rfl
    have : runeD L p = (65533, 3) := by
      unfold runeD
      rw [f0, c1, c2]
      exact lit_rune _
    rw [this] at hd
    exact absurd (congrArg Prod.snd hd) (by decide)
  unfold badR badC
  rw [decide_eq_true_eq]
  by_cases h1 : dec L p = (65533, 1)
  · rw [if_pos h1] at hd
    rw [hd]
    exact ⟨fun _ => .inl rfl, fun _ => .inl ⟨by rw [h1], herr h1⟩⟩
  · rw [if_neg h1] at hd
    rw [hd]
    constructor
    · rintro (⟨h2, h3⟩ | h2 | h2)
      · exact absurd (hlit h2 h1) h3
      · exact .inr (.inl h2)
      · exact .inr (.inr h2)
    · rintro (h2 | h2 | h2)
      · omega
      · exact .inr (.inl h2)
      · exact .inr (.inr h2)
theorem scan_rn {L : List UInt8} : ∀ (f p n : Nat), tagScan L f p n = match rnD L f p with
    | none => none
    | some l => if l.any badC then none else some (n + l.length)
  | 0, p, n => rfl
  | f + 1, p, n => by
    by_cases h : L.length ≤ p
    · rw [scan_end h, rn_end h]; rfl
    · have hp : p < L.length := by omega
      have hd := runeD_dec L p
      have hb := bad_iff hp
      have hw := dec_pos hp
      show (if L.length ≤ p then some n else if badR L p then none else tagScan L f (p + (dec L p).2) (n + 1)) = match (if L.length ≤ p then some [] else if (runeD L p).2 = 0 then none else (rnD L f (p + (runeD L p).2)).map fun l => (runeD L p).1 :: l) with
        | none => none
        | some l => if l.any badC then none else some (n + l.length)
      rw [if_neg h, if_neg h]
      by_cases h0 : (runeD L p).2 = 0
      · rw [if_pos h0, if_pos (hb.2 (.inl h0))]
      · rw [if_neg h0]
        have he : dec L p ≠ (65533, 1) := fun he => by rw [if_pos he] at hd; rw [hd] at h0; exact h0 rfl
        rw [if_neg he] at hd
        by_cases hc : badC (runeD L p).1 = true
        · rw [if_pos (hb.2 (.inr hc))]
          cases rnD L f (p + (runeD L p).2) with
          | none => rfl
          | some l => simp [hc]
        · rw [if_neg (fun hh => (hb.1 hh).elim h0 hc), ← hd, scan_rn f]
          cases rnD L f (p + (runeD L p).2) with
          | none => rfl
          | some l =>
            simp only [Option.map_some, List.any_cons, hc, Bool.false_or, List.length_cons]
            split
            · rfl
            · congr 1; omega
theorem rn_bytes {L : List UInt8} : ∀ (f p : Nat) (l : List Nat), L.length ≤ p + f → rnD L f p = some l → L.length ≤ p + 4 * l.length
  | 0, p, l, h, _ => by omega
  | f + 1, p, l, h, hr => by
    by_cases h1 : L.length ≤ p
    · omega
    · by_cases h0 : (runeD L p).2 = 0
      · rw [rn_bad (by omega) h h0] at hr; cases hr
      · rw [rn_go (by omega) h h0] at hr
        cases hq : rnD L (f + 1 - 1) (p + (runeD L p).2) with
        | none => rw [hq] at hr; cases hr
        | some l2 =>
          rw [hq] at hr
          have := Option.some.inj hr
          have ih := rn_bytes f (p + (runeD L p).2) l2 (by omega) hq
          have hw := dec_wd L p
          rw [← this]
          simp only [List.length_cons]
          omega
/-- The document's tags are the program's. -/
theorem tagD_eq (L : List UInt8) : tagD L = tagE L := by
  unfold tagD tagE scanN scanB
  rw [scan_rn]
  cases hr : rnD L L.length 0 with
  | none => simp
  | some l =>
    have hb := rn_bytes L.length 0 l (by omega) hr
    simp only [Nat.zero_add]
    by_cases ha : l.any badC = true
    · rw [if_pos ha]
      simp only [ha, if_true]
      by_cases h1 : l.length < 1 ∨ 24 < l.length
      · simp [h1]
      · simp [h1]
    · simp only [ha, if_false, Option.getD_some, Option.isSome_some, true_and, Bool.false_eq_true]
      by_cases h1 : l.length < 1 ∨ 24 < l.length
      · rw [if_pos h1]
        split
        · rfl
        · rw [if_neg (by omega)]
      · rw [if_neg h1, if_neg (by omega), if_pos (by omega)]
end Go.Proofs.YtfoliffeieeihaaGreatDoor
