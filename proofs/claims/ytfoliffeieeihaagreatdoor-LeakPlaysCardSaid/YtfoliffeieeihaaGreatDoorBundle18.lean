/-
  The texts of reports: tags in quotes, resources, lines. No program in sight.
-/
import Derived.Test.YtfoliffeieeihaaGreatDoorBundle16
import Derived.Test.YtfoliffeieeihaaGreatDoorTgD
import Derived.Lib.ItoaNum
namespace Go.Proofs.YtfoliffeieeihaaGreatDoor
def escB (b : UInt8) : List UInt8 := if b = 34 ∨ b = 92 then [92, b] else [b]
def escL (L : List UInt8) : List UInt8 := L.flatMap escB
def qtL (L : List UInt8) : List UInt8 := [34] ++ escL L ++ [34]
def letO (k : Int) : UInt8 := if k = 1 then 102 else if k = 2 then 98 else 108
def dgs (z : Int) : List UInt8 := Lib.decDigits z.toNat
def otL (o : Ky) : List UInt8 := [letO o.1] ++ dgs o.2.1 ++ [58] ++ dgs o.2.2
def wdL (s : Int) : List UInt8 := if s = 2 then [99, 108, 111, 115, 105, 110, 103] else if s = 3 then [114, 101, 108, 101, 97, 115, 101, 100] else [113, 117, 97, 114, 97, 110, 116, 105, 110, 101]
def lnL (x : Lk) : List UInt8 := qtL x.tag ++ [32] ++ otL x.out ++ [32] ++ dgs x.at_ ++ [32] ++ wdL x.st ++ [10]
def txL (l : List Lk) : List UInt8 := l.flatMap lnL
def txE (S : Rp) : Int := if 65536 < (txL (lks S)).length then 10 else 0
def txV (S : Rp) : List UInt8 := if 65536 < (txL (lks S)).length then [] else txL (lks S)
/-- The bytes of a rune. -/
def encU (r : Nat) : List UInt8 := if r < 128 then [UInt8.ofNat r] else if r < 2048 then [UInt8.ofNat (192 + r / 64), UInt8.ofNat (128 + r % 64)]
  else if r < 65536 then [UInt8.ofNat (224 + r / 4096), UInt8.ofNat (128 + r / 64 % 64), UInt8.ofNat (128 + r % 64)] else [UInt8.ofNat (240 + r / 262144), UInt8.ofNat (128 + r / 4096 % 64), UInt8.ofNat (128 + r / 64 % 64), UInt8.ofNat (128 + r % 64)]
theorem u8_is {x : UInt8} {n : Nat} (h : x.toNat = n) : x = UInt8.ofNat n := by subst h; exact (UInt8.ofNat_toNat).symm
theorem at_of {L : List UInt8} {p : Nat} (h : p < L.length) : L[p]? = some (L.getD p 0) := by
  rw [List.getD_eq_getElem?_getD, List.getElem?_eq_getElem h]
  rfl
theorem tk_of {L : List UInt8} : ∀ {n p : Nat}, p + n ≤ L.length → (L.drop p).take n = (List.range n).map fun j => L.getD (p + j) 0
  | 0, _, _ => by simp
  | n + 1, p, h => by
    rw [List.range_succ, List.map_append, ← tk_of (n := n) (p := p) (by omega), List.take_add_one, List.getElem?_drop, at_of (by omega)]
    rfl
theorem contB_lt {L : List UInt8} {j d : Nat} (h : contB L j = some d) : j < L.length ∧ (L.getD j 0).toNat = 128 + d := by
  have hd := contB_some h
  unfold contB at h
  split at h
  · rename_i q
    refine ⟨q.1, ?_⟩
    omega
  · cases h
/-- A rune that is there is what its bytes say. -/
theorem enc_rune {L : List UInt8} {p : Nat} (hp : p < L.length) (h : (runeD L p).2 ≠ 0) : p + (runeD L p).2 ≤ L.length ∧ encU (runeD L p).1 = (L.drop p).take (runeD L p).2 ∧ (1 < (runeD L p).2 → 128 ≤ (runeD L p).1 ∧ ∀ b ∈ (L.drop p).take (runeD L p).2, 128 ≤ b.toNat) ∧ ((runeD L p).2 = 1 → (runeD L p).1 = (L.getD p 0).toNat) := by
  obtain ⟨b0, hb⟩ : ∃ b0, b0 = (L.getD p 0).toNat := ⟨_, rfl⟩
  have hb8 : b0 < 256 := by rw [hb]; exact (L.getD p 0).toNat_lt
  have hx : L.getD p 0 = UInt8.ofNat b0 := u8_is hb.symm
  obtain ⟨q, hq⟩ : ∃ q, q = runeD L p := ⟨_, rfl⟩
  have hD := hq
  unfold runeD at hD
  rw [← hb] at hD
  rw [← hq] at h ⊢
  unfold decF at hD
  by_cases a0 : b0 < 128
  · rw [if_pos a0] at hD
    subst hD
    refine ⟨by show p + 1 ≤ _; omega, ?_, fun h1 => absurd h1 (by show ¬ 1 < 1; decide), fun _ => hb⟩
    rw [tk_of (by show p + 1 ≤ _; omega)]
    show encU b0 = [L.getD (p + 0) 0]
    rw [Nat.add_zero, hx]
    unfold encU
    rw [if_pos a0]
  · rw [if_neg a0] at hD
    by_cases a1 : b0 / 32 = 6
    · rw [if_pos a1] at hD
      cases hc1 : contB L (p + 1) with
      | none => rw [hc1] at hD; subst hD; exact absurd rfl h
      | some d1 =>
        rw [hc1] at hD
        simp only at hD
        obtain ⟨l1, e1⟩ := contB_lt hc1
        have k1 := (contB_some hc1).2
        split at hD
        · rename_i hc
          subst hD
          refine ⟨by show p + 2 ≤ _; omega, ?_, fun _ => ⟨hc, ?_⟩, fun h1 => absurd h1 (by show ¬ (2 : Nat) = 1; decide)⟩
          · rw [tk_of (by show p + 2 ≤ _; omega)]
            show encU (b0 % 32 * 64 + d1) = [L.getD (p + 0) 0, L.getD (p + 1) 0]
            unfold encU
            rw [if_neg (by omega), if_pos (by omega), Nat.add_zero, hx, u8_is e1, show 192 + (b0 % 32 * 64 + d1) / 64 = b0 by omega, show 128 + (b0 % 32 * 64 + d1) % 64 = 128 + d1 by omega]
          · intro b hbm
            rw [tk_of (by show p + 2 ≤ _; omega)] at hbm
            have hbm2 : b ∈ [L.getD (p + 0) 0, L.getD (p + 1) 0] := hbm
            simp only [List.mem_cons, List.not_mem_nil, or_false, Nat.add_zero] at hbm2
            rcases hbm2 with rfl | rfl
            · omega
            · omega
        · subst hD; exact absurd rfl h
    · rw [if_neg a1] at hD
      by_cases a2 : b0 / 16 = 14
      · rw [if_pos a2] at hD
        cases hc1 : contB L (p + 1) with
        | none => rw [hc1] at hD; subst hD; exact absurd rfl h
        | some d1 =>
          cases hc2 : contB L (p + 2) with
          | none => rw [hc1, hc2] at hD; subst hD; exact absurd rfl h
          | some d2 =>
            rw [hc1, hc2] at hD
            simp only at hD
            obtain ⟨l1, e1⟩ := contB_lt hc1
            obtain ⟨l2, e2⟩ := contB_lt hc2
            have k1 := (contB_some hc1).2
            have k2 := (contB_some hc2).2
            split at hD
            · rename_i hc
              subst hD
              refine ⟨by show p + 3 ≤ _; omega, ?_, fun _ => ⟨by show 128 ≤ _; omega, ?_⟩, fun h1 => absurd h1 (by show ¬ (3 : Nat) = 1; decide)⟩
              · rw [tk_of (by show p + 3 ≤ _; omega)]
                show encU (b0 % 16 * 4096 + d1 * 64 + d2) = [L.getD (p + 0) 0, L.getD (p + 1) 0, L.getD (p + 2) 0]
                unfold encU
                rw [if_neg (by omega), if_neg (by omega), if_pos (by omega), Nat.add_zero, hx, u8_is e1, u8_is e2, show 224 + (b0 % 16 * 4096 + d1 * 64 + d2) / 4096 = b0 by omega, show 128 + (b0 % 16 * 4096 + d1 * 64 + d2) / 64 % 64 = 128 + d1 by omega, show 128 + (b0 % 16 * 4096 + d1 * 64 + d2) % 64 = 128 + d2 by omega]
              · intro b hbm
                rw [tk_of (by show p + 3 ≤ _; omega)] at hbm
                have hbm2 : b ∈ [L.getD (p + 0) 0, L.getD (p + 1) 0, L.getD (p + 2) 0] := hbm
                simp only [List.mem_cons, List.not_mem_nil, or_false, Nat.add_zero] at hbm2
                rcases hbm2 with rfl | rfl | rfl
                · omega
                · omega
                · omega
            · subst hD; exact absurd rfl h
      · rw [if_neg a2] at hD
        by_cases a3 : b0 / 8 = 30
        · rw [if_pos a3] at hD
          cases hc1 : contB L (p + 1) with
          | none => rw [hc1] at hD; subst hD; exact absurd rfl h
          | some d1 =>
            cases hc2 : contB L (p + 2) with
            | none => rw [hc1, hc2] at hD; subst hD; exact absurd rfl h
            | some d2 =>
              cases hc3 : contB L (p + 3) with
              | none => rw [hc1, hc2, hc3] at hD; subst hD; exact absurd rfl h
              | some d3 =>
                rw [hc1, hc2, hc3] at hD
                simp only at hD
                obtain ⟨l1, e1⟩ := contB_lt hc1
                obtain ⟨l2, e2⟩ := contB_lt hc2
                obtain ⟨l3, e3⟩ := contB_lt hc3
                have k1 := (contB_some hc1).2
                have k2 := (contB_some hc2).2
                have k3 := (contB_some hc3).2
                split at hD
                · rename_i hc
                  subst hD
                  refine ⟨by show p + 4 ≤ _; omega, ?_, fun _ => ⟨by show 128 ≤ _; omega, ?_⟩, fun h1 => absurd h1 (by show ¬ (4 : Nat) = 1; decide)⟩
                  · rw [tk_of (by show p + 4 ≤ _; omega)]
                    show encU (b0 % 8 * 262144 + d1 * 4096 + d2 * 64 + d3) = [L.getD (p + 0) 0, L.getD (p + 1) 0, L.getD (p + 2) 0, L.getD (p + 3) 0]
                    unfold encU
                    rw [if_neg (by omega), if_neg (by omega), if_neg (by omega), Nat.add_zero, hx, u8_is e1, u8_is e2, u8_is e3, show 240 + (b0 % 8 * 262144 + d1 * 4096 + d2 * 64 + d3) / 262144 = b0 by omega, show 128 + (b0 % 8 * 262144 + d1 * 4096 + d2 * 64 + d3) / 4096 % 64 = 128 + d1 by omega,
                      show 128 + (b0 % 8 * 262144 + d1 * 4096 + d2 * 64 + d3) / 64 % 64 = 128 + d2 by omega, show 128 + (b0 % 8 * 262144 + d1 * 4096 + d2 * 64 + d3) % 64 = 128 + d3 by omega]
                  · intro b hbm
                    rw [tk_of (by show p + 4 ≤ _; omega)] at hbm
                    have hbm2 : b ∈ [L.getD (p + 0) 0, L.getD (p + 1) 0, L.getD (p + 2) 0, L.getD (p + 3) 0] := hbm
                    simp only [List.mem_cons, List.not_mem_nil, or_false, Nat.add_zero] at hbm2
                    rcases hbm2 with rfl | rfl | rfl | rfl
                    · omega
                    · omega
                    · omega
                    · omega
                · subst hD; exact absurd rfl h
        · rw [if_neg a3] at hD
          subst hD
          exact absurd rfl h
theorem esc_id {l : List UInt8} (h : ∀ b ∈ l, 128 ≤ b.toNat) : escL l = l := by
  induction l with
  | nil => rfl
  | cons b l ih =>
    unfold escL
    rw [List.flatMap_cons]
    have hb := h b (by simp)
    have : escB b = [b] := by
      unfold escB
      rw [if_neg]
      rintro (rfl | rfl) <;> revert hb <;> decide
    rw [this]
    show b :: escL l = _
    rw [ih fun c hc => h c (by simp [hc])]
theorem esc_step {L : List UInt8} {p : Nat} (hp : p < L.length) (h : (runeD L p).2 ≠ 0) : escL (L.take (p + (runeD L p).2)) = escL (L.take p) ++ ((if (runeD L p).1 = 34 ∨ (runeD L p).1 = 92 then [92] else []) ++ encU (runeD L p).1) := by
  obtain ⟨h1, h2, h3, h4⟩ := enc_rune hp h
  have hs : L.take (p + (runeD L p).2) = L.take p ++ (L.drop p).take (runeD L p).2 := List.take_add
  rw [hs]
  unfold escL
  rw [List.flatMap_append]
  congr 1
  show escL _ = _
  by_cases hw : 1 < (runeD L p).2
  · obtain ⟨h5, h6⟩ := h3 hw
    rw [esc_id h6, if_neg (by omega), h2]
    rfl
  · have hw1 : (runeD L p).2 = 1 := by omega
    have hr := h4 hw1
    rw [hw1, tk_of (by omega)]
    show escL [L.getD (p + 0) 0] = _
    rw [Nat.add_zero]
    have hlt : (runeD L p).1 < 128 := by
      have h7 := h2
      rw [hw1, tk_of (by omega)] at h7
      have h8 : (encU (runeD L p).1).length = 1 := by rw [h7]; rfl
      unfold encU at h8
      split at h8
      · assumption
      · split at h8
        · simp at h8
        · split at h8 <;> simp at h8
    have hx : L.getD p 0 = UInt8.ofNat (runeD L p).1 := u8_is hr.symm
    unfold encU
    rw [if_pos hlt, ← hx]
    show escB (L.getD p 0) ++ [] = _
    rw [List.append_nil]
    unfold escB
    have e : ∀ k : Nat, k < 256 → (L.getD p 0 = UInt8.ofNat k ↔ (runeD L p).1 = k) := fun k hk => by
      rw [hr]
      constructor
      · intro h9
        rw [h9, UInt8.toNat_ofNat', Nat.mod_eq_of_lt hk]
      · intro h9
        exact u8_is h9
    have e34 : L.getD p 0 = 34 ↔ (runeD L p).1 = 34 := e 34 (by decide)
    have e92 : L.getD p 0 = 92 ↔ (runeD L p).1 = 92 := e 92 (by decide)
    by_cases hc : (runeD L p).1 = 34 ∨ (runeD L p).1 = 92
    · rw [if_pos hc, if_pos (hc.imp e34.2 e92.2)]
      rfl
    · rw [if_neg hc, if_neg (fun q => hc (q.imp e34.1 e92.1))]
      rfl
end Go.Proofs.YtfoliffeieeihaaGreatDoor

/-
  The leaks of a report, out of its map: sorted by the first attempts they are the list of leaks. No program in sight.
-/
namespace Go.Proofs.YtfoliffeieeihaaGreatDoor
def toLk (q : Ky × Kn) : Option Lk := if 0 ≤ q.2.ord ∧ q.2.why = 3 then some ⟨q.2.tag, q.1, q.2.at_, q.2.st⟩ else none
def ordE (E : Km) (k : Ky) : Int := ((gget E k).map (·.ord)).getD 0
theorem sorted_uniq {α : Type} {f : α → Int} : ∀ {l m : List α}, l.Pairwise (fun a b => f a < f b) → m.Pairwise (fun a b => f a < f b) → (∀ x, x ∈ l ↔ x ∈ m) → l = m
  | [], [], _, _, _ => rfl
  | [], b :: m, _, _, h => by have := (h b).2 (by simp); cases this
  | a :: l, [], _, _, h => by have := (h a).1 (by simp); cases this
  | a :: l, b :: m, h1, h2, h => by
    rw [List.pairwise_cons] at h1 h2
    have hab : a = b := by
      rcases List.mem_cons.1 ((h a).1 (by simp)) with e | e
      · exact e
      · rcases List.mem_cons.1 ((h b).2 (by simp)) with e2 | e2
        · exact e2.symm
        · have q1 := h1.1 b e2
          have q2 := h2.1 a e
          omega
    subst hab
    have : l = m := sorted_uniq h1.2 h2.2 fun x => by
      have hx := h x
      simp only [List.mem_cons] at hx
      constructor
      · intro hl
        rcases hx.1 (.inr hl) with e | e
        · subst e
          have := h1.1 x hl
          omega
        · exact e
      · intro hm
        rcases hx.2 (.inr hm) with e | e
        · subst e
          have := h2.1 x hm
          omega
        · exact e
    rw [this]
theorem mem_lkAt {S : Rp} {i : Nat} {x : Lk} : x ∈ lkAt S i ↔ ∃ a, S.A[i]? = some a ∧ isF S.A i a = true ∧ a.why = 3 ∧ x = lkOf S a := by
  unfold lkAt
  cases S.A[i]? with
  | none => simp
  | some a =>
    simp only
    split
    · rename_i h
      simp only [List.mem_singleton]
      exact ⟨fun e => ⟨a, rfl, h.1, h.2, e⟩, fun ⟨b, e, _, _, h3⟩ => by obtain rfl := Option.some.inj e; exact h3⟩
    · rename_i h
      simp only [List.not_mem_nil, false_iff]
      rintro ⟨b, e, h1, h2, _⟩
      obtain rfl := Option.some.inj e
      exact h ⟨h1, h2⟩
theorem mem_lksN {S : Rp} {n : Nat} {x : Lk} : x ∈ lksN S n ↔ ∃ i a, i < n ∧ S.A[i]? = some a ∧ isF S.A i a = true ∧ a.why = 3 ∧ x = lkOf S a := by
  induction n with
  | zero => simp [lksN]
  | succ n ih =>
    simp only [lksN, List.mem_append, ih, mem_lkAt]
    constructor
    · rintro (⟨i, a, h, r⟩ | ⟨a, r⟩)
      · exact ⟨i, a, by omega, r⟩
      · exact ⟨n, a, by omega, r⟩
    · rintro ⟨i, a, h, r⟩
      rcases Nat.lt_or_ge i n with h2 | h2
      · exact .inl ⟨i, a, h2, r⟩
      · obtain rfl : i = n := by omega
        exact .inr ⟨a, r⟩
theorem mem_lks {S : Rp} {x : Lk} : x ∈ lks S ↔ ∃ i a, S.A[i]? = some a ∧ isF S.A i a = true ∧ a.why = 3 ∧ x = lkOf S a := by
  unfold lks
  rw [mem_lksN]
  constructor
  · rintro ⟨i, a, _, r⟩
    exact ⟨i, a, r⟩
  · rintro ⟨i, a, h, r⟩
    exact ⟨i, a, (List.getElem?_eq_some_iff.1 h).1, h, r⟩
theorem ordE_at {E : Km} {S : Rp} (hm : Rm E S) (hw : Rw S) {i : Nat} {a : At} (h : S.A[i]? = some a) (hf : isF S.A i a = true) : ∃ t, gget S.O a.out = some t ∧ gget E a.out = some ⟨t, (i : Int), a.at_, a.why, stOf S.A a.out⟩ := by
  obtain ⟨t, ht⟩ := Option.isSome_iff_exists.1 (hw.at_ a (List.mem_of_getElem? h)).2
  refine ⟨t, ht, ?_⟩
  rw [hm.get, ht, Option.map_some]
  unfold knOf
  rw [fi_of h rfl hf, Nat.zero_add]
theorem mem_toLk {E : Km} {S : Rp} (hm : Rm E S) (hw : Rw S) {x : Lk} : x ∈ E.filterMap toLk ↔ ∃ i a, S.A[i]? = some a ∧ isF S.A i a = true ∧ a.why = 3 ∧ x = lkOf S a := by
  rw [List.mem_filterMap]
  constructor
  · rintro ⟨⟨k, e⟩, hq, hx⟩
    unfold toLk at hx
    split at hx
    · rename_i h
      obtain rfl := Option.some.inj hx
      have hg := (gn_mem hm.nd).2 hq
      rw [hm.get] at hg
      cases ht : gget S.O k with
      | none => rw [ht] at hg; cases hg
      | some t =>
        rw [ht, Option.map_some] at hg
        have he := Option.some.inj hg
        simp only at h
        cases hf : fiA S.A k 0 with
        | none =>
          exfalso
          rw [← he] at h
          unfold knOf at h
          rw [hf] at h
          have := h.1
          simp at this
        | some p =>
          obtain ⟨i, a⟩ := p
          have h2 := fi_get hf
          rw [Nat.sub_zero] at h2
          have hk : knOf t S.A k = ⟨t, (i : Int), a.at_, a.why, stOf S.A k⟩ := by unfold knOf; rw [hf]
          rw [hk] at he
          subst he
          refine ⟨i, a, h2.2.1, h2.2.2.2, h.2, ?_⟩
          unfold lkOf tagO
          rw [h2.2.2.1, ht]
          rfl
    · cases hx
  · rintro ⟨i, a, h, hf, hy, rfl⟩
    obtain ⟨t, ht, hg⟩ := ordE_at hm hw h hf
    refine ⟨_, (gn_mem hm.nd).1 hg, ?_⟩
    unfold toLk lkOf tagO
    rw [if_pos ⟨by simp only; omega, hy⟩, ht]
    rfl
theorem lksN_sorted {E : Km} {S : Rp} (hm : Rm E S) (hw : Rw S) : ∀ n, (lksN S n).Pairwise fun a b => ordE E a.out < ordE E b.out
  | 0 => List.Pairwise.nil
  | n + 1 => by
    have ho : ∀ {i : Nat} {a : At}, S.A[i]? = some a → isF S.A i a = true → ordE E a.out = (i : Int) := fun h hf => by
      obtain ⟨t, _, hg⟩ := ordE_at hm hw h hf
      unfold ordE
      rw [hg]
      rfl
    simp only [lksN]
    rw [List.pairwise_append]
    refine ⟨lksN_sorted hm hw n, ?_, ?_⟩
    · unfold lkAt
      cases S.A[n]? with
      | none => exact List.Pairwise.nil
      | some a =>
        simp only
        split
        · exact List.pairwise_singleton _ _
        · exact List.Pairwise.nil
    · intro x hx y hy
      obtain ⟨i, a, hi, h1, h2, _, rfl⟩ := mem_lksN.1 hx
      obtain ⟨b, h3, h4, _, rfl⟩ := mem_lkAt.1 hy
      show ordE E a.out < ordE E b.out
      rw [ho h1 h2, ho h3 h4]
      omega
/-- The entries' leaks, sorted, are the list. -/
theorem lk_sorted {E : Km} {S : Rp} (hm : Rm E S) (hw : Rw S) {X M : List Lk} (hX : X.Perm (E.filterMap toLk)) (hM : M.Perm X) (hs : M.Pairwise fun a b => ordE E a.out ≤ ordE E b.out) : M = lks S := by
  have hP := hM.trans hX
  have hmem : ∀ x, x ∈ M ↔ ∃ i a, S.A[i]? = some a ∧ isF S.A i a = true ∧ a.why = 3 ∧ x = lkOf S a := fun x => hP.mem_iff.trans (mem_toLk hm hw)
  have hn : (M.map (·.out)).Nodup := by
    have h1 : ((E.filterMap toLk).map (·.out)).Nodup := by
      have : ((E.filterMap toLk).map (·.out)).Sublist (E.map (·.1)) := by
        clear hm hX hs hP hmem
        induction E with
        | nil => exact List.Sublist.refl _
        | cons q E ih =>
          rw [List.filterMap_cons]
          unfold toLk
          split
          · rename_i h
            split at h
            · cases h
            · exact (ih).cons _
          · rename_i y h
            split at h
            · obtain rfl := Option.some.inj h
              exact (ih).cons_cons _
            · cases h
      exact this.nodup hm.nd
    exact (hP.map (·.out)).nodup_iff.2 h1
  refine sorted_uniq (f := fun x : Lk => ordE E x.out) ?_ (lksN_sorted hm hw _) fun x => (hmem x).trans mem_lks.symm
  have hn2 : M.Pairwise fun a b => a.out ≠ b.out := by
    rw [List.Nodup, List.pairwise_map] at hn
    exact hn
  refine List.Pairwise.imp_of_mem (fun {a b} ha hb hab => ?_) (hs.and hn2)
  obtain ⟨i, p, h1, h2, _, rfl⟩ := (hmem a).1 ha
  obtain ⟨j, q, h3, h4, _, rfl⟩ := (hmem b).1 hb
  obtain ⟨t1, _, g1⟩ := ordE_at hm hw h1 h2
  obtain ⟨t2, _, g2⟩ := ordE_at hm hw h3 h4
  have e1 : ordE E p.out = (i : Int) := by unfold ordE; rw [g1]; rfl
  have e2 : ordE E q.out = (j : Int) := by unfold ordE; rw [g2]; rfl
  obtain ⟨hle, hne⟩ := hab
  have e3 : ordE E (lkOf S p).out = (i : Int) := e1
  have e4 : ordE E (lkOf S q).out = (j : Int) := e2
  simp only [e3, e4] at hle ⊢
  rcases Nat.lt_or_ge i j with h | h
  · omega
  · obtain rfl : i = j := by omega
    rw [h1] at h3
    obtain rfl := Option.some.inj h3
    exact absurd rfl hne
end Go.Proofs.YtfoliffeieeihaaGreatDoor
