/-
  Tags, as plain functions of the lists of their bytes. No program in sight.
-/
import Derived.Test.YtfoliffeieeihaaGreatDoorSrg
import Derived.Test.YtfoliffeieeihaaGreatDoorMpg
namespace Go.Proofs.YtfoliffeieeihaaGreatDoor
def badR (L : List UInt8) (p : Nat) : Prop := ((dec L p).1 = 65533 ∧ ¬ (L.drop p).take 3 = [239, 191, 189]) ∨ (dec L p).1 < 32 ∨ (dec L p).1 = 127
instance (L : List UInt8) (p : Nat) : Decidable (badR L p) := by unfold badR; infer_instance
def tagScan (L : List UInt8) : Nat → Nat → Nat → Option Nat
  | 0, _, n => some n
  | f + 1, p, n => if L.length ≤ p then some n else if badR L p then none else tagScan L f (p + (dec L p).2) (n + 1)
theorem scan_end {L : List UInt8} {f p n : Nat} (h : L.length ≤ p) : tagScan L f p n = some n := by
  cases f with
  | zero => rfl
  | succ f => exact if_pos h
theorem scan_bad {L : List UInt8} {f p n : Nat} (h : p < L.length) (hf : L.length ≤ p + f) (hb : badR L p) : tagScan L f p n = none := by
  cases f with
  | zero => omega
  | succ f =>
    show (if L.length ≤ p then _ else _) = _
    rw [if_neg (by omega), if_pos hb]
theorem scan_go {L : List UInt8} {f p n : Nat} (h : p < L.length) (hf : L.length ≤ p + f) (hb : ¬ badR L p) : tagScan L f p n = tagScan L (f - 1) (p + (dec L p).2) (n + 1) := by
  cases f with
  | zero => omega
  | succ f =>
    show (if L.length ≤ p then _ else _) = _
    rw [if_neg (by omega), if_neg hb]
    rfl
def scanN (L : List UInt8) : Nat := (tagScan L L.length 0 0).getD 0
def scanB (L : List UInt8) : Bool := (tagScan L L.length 0 0).isSome
/-- The error of a tag. -/
def tagE (L : List UInt8) : Int := if 96 < L.length then 16 else if scanB L = true ∧ 1 ≤ scanN L ∧ scanN L ≤ 24 then 0 else 16
theorem pfx_len {L : List UInt8} {a b c : UInt8} (h : L.take 3 = [a, b, c]) : 3 ≤ L.length := by
  have := congrArg List.length h
  rw [List.length_take] at this
  simp only [List.length_cons, List.length_nil] at this
  omega
end Go.Proofs.YtfoliffeieeihaaGreatDoor

/-
  Reports of leaks (chapter 36), as plain functions of what was opened and of the attempts that were taken. No program in sight.
-/
namespace Go.Proofs.YtfoliffeieeihaaGreatDoor
structure At where
  at_ : Int
  out : Ky
  why : Int
  ans : Int
structure Kn where
  tag : List UInt8
  ord : Int
  at_ : Int
  why : Int
  st : Int
structure Lk where
  tag : List UInt8
  out : Ky
  at_ : Int
  st : Int
/-- What was opened, with its tag; the attempts. -/
structure Rp where
  O : List (Ky × List UInt8)
  A : List At
abbrev Km := List (Ky × Kn)
def vKn (e : Kn) : Value := .agg #[.string (St e.tag), .int .i64 e.ord, .int .i64 e.at_, .int .i64 e.why, .int .i64 e.st]
def eAt (a : At) : List Value := [.int .i64 a.at_, .int .i64 a.out.1, .int .i64 a.out.2.1, .int .u32 a.out.2.2, .int .i64 a.why, .int .i64 a.ans]
def eLk (x : Lk) : List Value := [.string (St x.tag), .int .i64 x.out.1, .int .i64 x.out.2.1, .int .u32 x.out.2.2, .int .i64 x.at_, .int .i64 x.st]
theorem eAt_ok : Enc 6 eAt := ⟨fun _ => rfl, fun x v hv => by simp [eAt] at hv; rcases hv with rfl | rfl | rfl | rfl | rfl | rfl <;> rfl⟩
theorem eLk_ok : Enc 6 eLk := ⟨fun _ => rfl, fun x v hv => by simp [eLk] at hv; rcases hv with rfl | rfl | rfl | rfl | rfl | rfl <;> rfl⟩
/-- What became of a resource. -/
def stOf : List At → Ky → Int
  | [], _ => 2
  | a :: r, k => if a.out = k ∧ a.ans = 1 then 3 else if a.out = k ∧ a.ans = 3 then 4 else stOf r k
/-- The first attempt for a resource, and how many came before it. -/
def fiA : List At → Ky → Nat → Option (Nat × At)
  | [], _, _ => none
  | a :: r, k, i => if a.out = k then some (i, a) else fiA r k (i + 1)
def knOf (t : List UInt8) (A : List At) (k : Ky) : Kn := match fiA A k 0 with
  | none => ⟨t, -1, 0, 0, stOf A k⟩
  | some (i, a) => ⟨t, (i : Int), a.at_, a.why, stOf A k⟩
def outE (o : Ky) : Int := if 1 ≤ o.1 ∧ o.1 ≤ 3 ∧ 0 ≤ o.2.1 ∧ o.2.1 ≤ 63 ∧ 1 ≤ o.2.2 then 0 else 2
def attP (a : At) : Prop := 0 ≤ a.at_ ∧ a.at_ ≤ 1099511627776 ∧ outE a.out = 0 ∧ 1 ≤ a.why ∧ a.why ≤ 3 ∧ 1 ≤ a.ans ∧ a.ans ≤ 3
instance (a : At) : Decidable (attP a) := by unfold attP; infer_instance
def attE (a : At) : Int := if attP a then 0 else 2
/-- Opened: the error, and what is left. -/
def opdE (S : Rp) (o : Ky) (t : List UInt8) : Int := if outE o ≠ 0 then 2 else if tagE t ≠ 0 then 16 else if (gget S.O o).isSome then 6 else if 2000 ≤ S.O.length then 4 else 0
def opdS (S : Rp) (o : Ky) (t : List UInt8) : Rp := if opdE S o t = 0 then ⟨S.O ++ [(o, t)], S.A⟩ else S
/-- Tried. -/
def trE (S : Rp) (a : At) : Int := if attE a ≠ 0 then 2 else if gget S.O a.out = none then 5 else if stOf S.A a.out ≠ 2 then 8 else 0
def trS (S : Rp) (a : At) : Rp := if trE S a = 0 then ⟨S.O, S.A ++ [a]⟩ else S
/-- The leaks: attempts that are the first for their resource, and the collector's. -/
def tagO (S : Rp) (k : Ky) : List UInt8 := (gget S.O k).getD []
def lkOf (S : Rp) (a : At) : Lk := ⟨tagO S a.out, a.out, a.at_, stOf S.A a.out⟩
def isF (A : List At) (i : Nat) (a : At) : Bool := (A.take i).all fun q => decide (q.out ≠ a.out)
def lkAt (S : Rp) (i : Nat) : List Lk := match S.A[i]? with
  | none => []
  | some a => if isF S.A i a = true ∧ a.why = 3 then [lkOf S a] else []
def lksN (S : Rp) : Nat → List Lk
  | 0 => []
  | i + 1 => lksN S i ++ lkAt S i
def lks (S : Rp) : List Lk := lksN S S.A.length
/-- What is true of every report. -/
structure Rw (S : Rp) : Prop where
  nd : (S.O.map (·.1)).Nodup
  le : S.O.length ≤ 2000
  ok : ∀ q ∈ S.O, outE q.1 = 0 ∧ tagE q.2 = 0 ∧ q.1.2.2 ≤ 4294967295
  at_ : ∀ a ∈ S.A, attP a ∧ (gget S.O a.out).isSome = true
  al : S.A.length ≤ 4294967296
  tr : ∀ (i : Nat) (a : At), S.A[i]? = some a → stOf (S.A.take i) a.out = 2
/-- The map of a report, in whatever order. -/
structure Rm (E : Km) (S : Rp) : Prop where
  nd : (E.map (·.1)).Nodup
  get : ∀ k, gget E k = (gget S.O k).map fun t => knOf t S.A k
  len : E.length = S.O.length
theorem outE_iff {o : Ky} : outE o = 0 ↔ 1 ≤ o.1 ∧ o.1 ≤ 3 ∧ 0 ≤ o.2.1 ∧ o.2.1 ≤ 63 ∧ 1 ≤ o.2.2 := by
  unfold outE
  split
  · simp_all
  · simp_all
theorem outE_or (o : Ky) : outE o = 0 ∨ outE o = 2 := by
  unfold outE
  split
  · exact .inl rfl
  · exact .inr rfl
section
variable {β : Type}
theorem gn_none {E : List (Ky × β)} {k : Ky} : gget E k = none ↔ k ∉ E.map (·.1) := by
  induction E with
  | nil => simp [gget]
  | cons q E ih =>
    obtain ⟨a, v⟩ := q
    simp only [gget, List.map_cons, List.mem_cons, not_or]
    split
    · rename_i h
      subst h
      simp
    · rename_i h
      rw [ih]
      exact ⟨fun h2 => ⟨h, h2⟩, fun h2 => h2.2⟩
theorem gn_mem {E : List (Ky × β)} {k : Ky} {v : β} (hn : (E.map (·.1)).Nodup) : gget E k = some v ↔ (k, v) ∈ E := by
  induction E with
  | nil => simp [gget]
  | cons q E ih =>
    obtain ⟨a, u⟩ := q
    simp only [List.map_cons, List.nodup_cons] at hn
    simp only [gget, List.mem_cons, Prod.mk.injEq]
    split
    · rename_i h
      subst h
      constructor
      · intro h
        exact .inl ⟨rfl, (Option.some.inj h).symm⟩
      · rintro (⟨_, h⟩ | h)
        · rw [h]
        · exact absurd (List.mem_map_of_mem (f := (·.1)) h) hn.1
    · rename_i h
      rw [ih hn.2]
      exact ⟨.inr, fun h2 => h2.resolve_left fun h3 => h h3.1⟩
theorem gn_set_new {E : List (Ky × β)} {k : Ky} {v : β} (h : gget E k = none) : gset E k v = E ++ [(k, v)] := by
  induction E with
  | nil => rfl
  | cons q E ih =>
    obtain ⟨a, u⟩ := q
    simp only [gget] at h
    split at h
    · cases h
    · rename_i ha
      simp only [gset, if_neg ha, ih h, List.cons_append]
theorem gn_app {E : List (Ky × β)} {k a : Ky} {v : β} (h : gget E k = none) : gget (E ++ [(k, v)]) a = if a = k then some v else gget E a := by
  rw [← gn_set_new h, gget_set]
theorem gn_keys (E : List (Ky × β)) (k : Ky) (v : β) : (gget E k).isSome = true → (gset E k v).map (·.1) = E.map (·.1) ∧ (gset E k v).length = E.length := by
  induction E with
  | nil => intro h; cases h
  | cons q E ih =>
    obtain ⟨a, u⟩ := q
    intro h
    simp only [gget] at h
    simp only [gset]
    split
    · rename_i ha
      subst ha
      exact ⟨rfl, rfl⟩
    · rename_i ha
      rw [if_neg ha] at h
      obtain ⟨h1, h2⟩ := ih h
      simp only [List.map_cons, List.length_cons, h1, h2]
      exact ⟨trivial, trivial⟩
end
-- attempts at the end
theorem sto_app (A : List At) (a : At) (k : Ky) : stOf (A ++ [a]) k = if stOf A k ≠ 2 then stOf A k else stOf [a] k := by
  induction A with
  | nil => simp [stOf]
  | cons b A ih =>
    simp only [List.cons_append, stOf]
    split
    · simp
    · split
      · simp
      · exact ih
theorem st_val (A : List At) (k : Ky) : stOf A k = 2 ∨ stOf A k = 3 ∨ stOf A k = 4 := by
  induction A with
  | nil => exact .inl rfl
  | cons b A ih =>
    simp only [stOf]
    split
    · exact .inr (.inl rfl)
    · split
      · exact .inr (.inr rfl)
      · exact ih
theorem fi_app (A : List At) (a : At) (k : Ky) : ∀ i, fiA (A ++ [a]) k i = match fiA A k i with
    | some q => some q
    | none => if a.out = k then some (i + A.length, a) else none := by
  induction A with
  | nil => intro i; simp [fiA]
  | cons b A ih =>
    intro i
    simp only [List.cons_append, fiA]
    split
    · rfl
    · rw [ih (i + 1)]
      cases fiA A k (i + 1) with
      | some q => rfl
      | none => simp only [List.length_cons]; rw [show i + 1 + A.length = i + (A.length + 1) by omega]
theorem fi_get {A : List At} {k : Ky} {j : Nat} {a : At} : ∀ {i : Nat}, fiA A k i = some (j, a) → i ≤ j ∧ A[j - i]? = some a ∧ a.out = k ∧ isF A (j - i) a = true := by
  induction A with
  | nil => intro i h; cases h
  | cons b A ih =>
    intro i h
    simp only [fiA] at h
    split at h
    · rename_i hb
      obtain ⟨rfl, rfl⟩ := Prod.mk.inj (Option.some.inj h)
      rw [Nat.sub_self]
      exact ⟨Nat.le_refl _, rfl, hb, rfl⟩
    · rename_i hb
      obtain ⟨h1, h2, h3, h4⟩ := ih h
      have e : j - i = (j - (i + 1)) + 1 := by omega
      rw [e]
      refine ⟨by omega, by rw [List.getElem?_cons_succ]; exact h2, h3, ?_⟩
      unfold isF at h4 ⊢
      rw [List.take_succ_cons, List.all_cons, h4, Bool.and_true, h3]
      exact decide_eq_true hb
theorem fi_none {A : List At} {k : Ky} : ∀ {i : Nat}, fiA A k i = none ↔ ∀ a ∈ A, a.out ≠ k := by
  induction A with
  | nil => intro i; simp [fiA]
  | cons b A ih =>
    intro i
    simp only [fiA, List.mem_cons, forall_eq_or_imp]
    split
    · rename_i h
      simp [h]
    · rename_i h
      rw [ih]
      exact ⟨fun h2 => ⟨h, h2⟩, fun h2 => h2.2⟩
theorem fi_of {A : List At} {k : Ky} {j : Nat} {a : At} : ∀ {i : Nat}, A[j]? = some a → a.out = k → isF A j a = true → fiA A k i = some (i + j, a) := by
  induction A generalizing j with
  | nil => intro i h; simp at h
  | cons b A ih =>
    intro i h h2 h3
    simp only [fiA]
    cases j with
    | zero =>
      rw [List.getElem?_cons_zero] at h
      obtain rfl := Option.some.inj h
      rw [if_pos h2]
      rfl
    | succ j =>
      rw [List.getElem?_cons_succ] at h
      unfold isF at h3
      rw [List.take_succ_cons, List.all_cons, Bool.and_eq_true] at h3
      have hb : ¬ b.out = k := fun e => of_decide_eq_true h3.1 (e.trans h2.symm)
      rw [if_neg hb, ih h h2 h3.2, show i + 1 + j = i + (j + 1) by omega]
theorem st_none {A : List At} {k : Ky} (h : ∀ a ∈ A, a.out ≠ k) : stOf A k = 2 := by
  induction A with
  | nil => rfl
  | cons b A ih =>
    simp only [stOf]
    have hb := h b (by simp)
    rw [if_neg (fun q => hb q.1), if_neg (fun q => hb q.1)]
    exact ih fun a ha => h a (by simp [ha])
-- the map
theorem rm_new : Rm [] ⟨[], []⟩ := ⟨List.nodup_nil, fun _ => rfl, rfl⟩
theorem rw_new : Rw ⟨[], []⟩ := ⟨List.nodup_nil, Nat.zero_le _, (fun _ h => nomatch h), (fun _ h => nomatch h), Nat.zero_le _, (fun i a h => by simp at h)⟩
theorem knOf_none (t : List UInt8) {A : List At} {k : Ky} (h : ∀ a ∈ A, a.out ≠ k) : knOf t A k = ⟨t, -1, 0, 0, 2⟩ := by
  unfold knOf
  rw [fi_none.2 h, st_none h]
theorem rm_open {E : Km} {S : Rp} (hm : Rm E S) (hw : Rw S) {o : Ky} {t : List UInt8} (he : opdE S o t = 0) : Rm (gset E o ⟨t, -1, 0, 0, 2⟩) (opdS S o t) := by
  have h0 : gget S.O o = none := by
    unfold opdE at he
    split at he
    · cases he
    · split at he
      · cases he
      · split at he
        · cases he
        · rename_i h
          simpa using h
  have h1 : gget E o = none := by rw [hm.get, h0]; rfl
  have hn : ∀ a ∈ S.A, a.out ≠ o := fun a ha e => by
    have := (hw.at_ a ha).2
    rw [e, h0] at this
    cases this
  unfold opdS
  rw [if_pos he, gn_set_new h1]
  refine ⟨?_, fun k => ?_, ?_⟩
  · rw [List.map_append, List.nodup_append]
    refine ⟨hm.nd, by simp, ?_⟩
    intro a ha b hb
    simp only [List.map_cons, List.map_nil, List.mem_singleton] at hb
    subst hb
    intro e
    subst e
    exact gn_none.1 h1 ha
  · rw [gn_app h1, gn_app h0]
    split
    · rename_i h
      subst h
      rw [Option.map_some, knOf_none t hn]
    · exact hm.get k
  · simp [hm.len]
theorem rw_open {S : Rp} (hw : Rw S) {o : Ky} {t : List UInt8} (ho : o.2.2 ≤ 4294967295) : Rw (opdS S o t) := by
  unfold opdS
  split
  · rename_i he
    unfold opdE at he
    by_cases q1 : outE o ≠ 0
    · rw [if_pos q1] at he; cases he
    rw [if_neg q1] at he
    by_cases q2 : tagE t ≠ 0
    · rw [if_pos q2] at he; cases he
    rw [if_neg q2] at he
    by_cases q3 : (gget S.O o).isSome
    · rw [if_pos q3] at he; cases he
    rw [if_neg q3] at he
    by_cases q4 : 2000 ≤ S.O.length
    · rw [if_pos q4] at he; cases he
    have h0 : gget S.O o = none := by simpa using q3
    refine ⟨?_, ?_, ?_, ?_, hw.al, hw.tr⟩
    · rw [List.map_append, List.nodup_append]
      refine ⟨hw.nd, by simp, ?_⟩
      intro a ha b hb
      simp only [List.map_cons, List.map_nil, List.mem_singleton] at hb
      subst hb
      intro e
      subst e
      exact gn_none.1 h0 ha
    · simp; omega
    · intro q hq
      rcases List.mem_append.1 hq with hq | hq
      · exact hw.ok q hq
      · obtain rfl := List.mem_singleton.1 hq
        exact ⟨Decidable.not_not.1 q1, Decidable.not_not.1 q2, ho⟩
    · intro a ha
      obtain ⟨h1, h2⟩ := hw.at_ a ha
      refine ⟨h1, ?_⟩
      rw [gn_app h0]
      split
      · rfl
      · exact h2
  · exact hw
theorem trE_zero {S : Rp} {a : At} (h : trE S a = 0) : attP a ∧ (∃ t, gget S.O a.out = some t) ∧ stOf S.A a.out = 2 := by
  unfold trE at h
  split at h
  · cases h
  · rename_i h1
    split at h
    · cases h
    · rename_i h2
      split at h
      · cases h
      · rename_i h3
        refine ⟨?_, ?_, Decidable.not_not.1 h3⟩
        · unfold attE at h1
          split at h1
          · assumption
          · exact absurd (by decide) h1
        · cases hg : gget S.O a.out with
          | none => exact absurd hg h2
          | some t => exact ⟨t, rfl⟩
/-- What the map's entry becomes by an attempt. -/
def stepK (n : Nat) (e : Kn) (a : At) : Kn := ⟨e.tag, if e.ord < 0 then (n : Int) else e.ord, if e.ord < 0 then a.at_ else e.at_, if e.ord < 0 then a.why else e.why, if a.ans = 1 then 3 else if a.ans = 3 then 4 else e.st⟩
theorem knOf_step {t : List UInt8} {A : List At} {a : At} (h : stOf A a.out = 2) : knOf t (A ++ [a]) a.out = stepK A.length (knOf t A a.out) a := by
  have hs : stOf (A ++ [a]) a.out = if a.ans = 1 then 3 else if a.ans = 3 then 4 else 2 := by
    rw [sto_app, if_neg (fun q => q h)]
    simp [stOf]
  unfold knOf
  rw [fi_app, hs]
  cases hf : fiA A a.out 0 with
  | none => simp [stepK, h]
  | some q =>
    obtain ⟨i, b⟩ := q
    have : ¬ (i : Int) < 0 := by omega
    simp [stepK, h, this]
theorem knOf_other {t : List UInt8} {A : List At} {a : At} {k : Ky} (h : k ≠ a.out) : knOf t (A ++ [a]) k = knOf t A k := by
  have h' : ¬ a.out = k := fun e => h e.symm
  unfold knOf
  rw [fi_app, sto_app]
  have h1 : stOf [a] k = 2 := st_none (fun b hb => by obtain rfl := List.mem_singleton.1 hb; exact h')
  have h2 : (if stOf A k ≠ 2 then stOf A k else stOf [a] k) = stOf A k := by
    rw [h1]
    split
    · rfl
    · rename_i q; exact (Decidable.not_not.1 q).symm
  rw [h2]
  cases fiA A k 0 with
  | none => simp [h']
  | some q => rfl
theorem rm_try {E : Km} {S : Rp} (hm : Rm E S) {a : At} (he : trE S a = 0) {e : Kn} (hg : gget E a.out = some e) : Rm (gset E a.out (stepK S.A.length e a)) (trS S a) := by
  obtain ⟨_, ⟨t, ht⟩, h2⟩ := trE_zero he
  have hk := gn_keys E a.out (stepK S.A.length e a) (by rw [hg]; rfl)
  have het : e = knOf t S.A a.out := by
    have := hm.get a.out
    rw [hg, ht] at this
    exact Option.some.inj this
  unfold trS
  rw [if_pos he]
  refine ⟨by rw [hk.1]; exact hm.nd, fun k => ?_, by rw [hk.2]; exact hm.len⟩
  rw [gget_set]
  split
  · rename_i h
    subst h
    show _ = (gget S.O a.out).map _
    rw [ht, Option.map_some, knOf_step h2, het]
  · rename_i h
    rw [hm.get k]
    show _ = (gget S.O k).map _
    cases gget S.O k with
    | none => rfl
    | some u => rw [Option.map_some, Option.map_some, knOf_other h]
theorem rw_try {S : Rp} (hw : Rw S) {a : At} (hl : S.A.length < 4294967296) : Rw (trS S a) := by
  unfold trS
  split
  · rename_i he
    obtain ⟨h1, ⟨t, h2⟩, h3⟩ := trE_zero he
    refine ⟨hw.nd, hw.le, hw.ok, ?_, by simp; omega, ?_⟩
    · intro b hb
      rcases List.mem_append.1 hb with hb | hb
      · exact hw.at_ b hb
      · obtain rfl := List.mem_singleton.1 hb
        exact ⟨h1, by rw [h2]; rfl⟩
    · intro i b hb
      rcases Nat.lt_or_ge i S.A.length with h | h
      · rw [List.getElem?_append_left h] at hb
        rw [List.take_append_of_le_length (Nat.le_of_lt h)]
        exact hw.tr i b hb
      · rw [List.getElem?_append_right h] at hb
        have hi : i = S.A.length := by
          have := (List.getElem?_eq_some_iff.1 hb).1
          simp at this
          omega
        subst hi
        rw [Nat.sub_self] at hb
        obtain rfl := Option.some.inj hb
        rw [List.take_left]
        exact h3
  · exact hw
def kn0 : Kn := ⟨[], 0, 0, 0, 0⟩
def kget (E : Km) (k : Ky) : Kn := (gget E k).getD kn0
theorem kn_lk1 {E : Km} {k : Ky} {u : Kn} (h : gget E k = some u) : vKn u = vKn (kget E k) ∧ (gget E k).isSome = true := by unfold kget; rw [h]; exact ⟨rfl, rfl⟩
theorem kn_lk0 {E : Km} {k : Ky} (h : gget E k = none) : vKn kn0 = vKn (kget E k) ∧ (gget E k).isSome = false := by unfold kget; rw [h]; exact ⟨rfl, rfl⟩
theorem kn_lg1 {E : Km} {k : Ky} {u : Kn} (h : gget E k = some u) : vKn u = vKn (kget E k) := (kn_lk1 h).1
theorem kn_lg0 {E : Km} {k : Ky} (h : gget E k = none) : vKn kn0 = vKn (kget E k) := (kn_lk0 h).1
theorem rm_some {E : Km} {S : Rp} (hm : Rm E S) (k : Ky) : (gget E k).isSome = (gget S.O k).isSome := by
  rw [hm.get]
  cases gget S.O k <;> rfl
theorem rm_kget {E : Km} {S : Rp} (hm : Rm E S) {k : Ky} (h : (gget E k).isSome = true) : gget E k = some (kget E k) ∧ (kget E k).st = stOf S.A k ∧ -1 ≤ (kget E k).ord ∧ (kget E k).ord < (S.A.length : Int) := by
  unfold kget
  cases hg : gget E k with
  | none => rw [hg] at h; cases h
  | some e =>
    refine ⟨rfl, ?_⟩
    have h2 := hm.get k
    rw [hg] at h2
    cases ht : gget S.O k with
    | none => rw [ht] at h2; cases h2
    | some t =>
      rw [ht, Option.map_some] at h2
      obtain rfl := Option.some.inj h2
      show (knOf t S.A k).st = _ ∧ -1 ≤ (knOf t S.A k).ord ∧ (knOf t S.A k).ord < _
      unfold knOf
      cases hf : fiA S.A k 0 with
      | none => exact ⟨rfl, by show (-1 : Int) ≤ -1; omega, by show (-1 : Int) < _; omega⟩
      | some q =>
        obtain ⟨i, a⟩ := q
        have h1 := fi_get hf
        have h3 := (List.getElem?_eq_some_iff.1 h1.2.1).1
        exact ⟨rfl, by show (-1 : Int) ≤ (i : Int); omega, by show (i : Int) < _; omega⟩
theorem opdE_arg {S : Rp} {o : Ky} {t : List UInt8} (h : outE o ≠ 0) : opdE S o t = 2 := if_pos h
theorem opdE_tag {S : Rp} {o : Ky} {t : List UInt8} (h0 : outE o = 0) (h : tagE t ≠ 0) : opdE S o t = 16 := by unfold opdE; rw [if_neg (fun q => q h0), if_pos h]
theorem opdE_have {S : Rp} {o : Ky} {t : List UInt8} (h0 : outE o = 0) (h1 : tagE t = 0) (h : (gget S.O o).isSome = true) : opdE S o t = 6 := by unfold opdE; rw [if_neg (fun q => q h0), if_neg (fun q => q h1), if_pos h]
theorem opdE_full {S : Rp} {o : Ky} {t : List UInt8} (h0 : outE o = 0) (h1 : tagE t = 0) (h : (gget S.O o).isSome = false) (hl : 2000 ≤ S.O.length) : opdE S o t = 4 := by unfold opdE; rw [if_neg (fun q => q h0), if_neg (fun q => q h1), if_neg (by rw [h]; decide), if_pos hl]
theorem opdE_ok {S : Rp} {o : Ky} {t : List UInt8} (h0 : outE o = 0) (h1 : tagE t = 0) (h : (gget S.O o).isSome = false) (hl : ¬ 2000 ≤ S.O.length) : opdE S o t = 0 := by unfold opdE; rw [if_neg (fun q => q h0), if_neg (fun q => q h1), if_neg (by rw [h]; decide), if_neg hl]
theorem opdS_no {S : Rp} {o : Ky} {t : List UInt8} {e : Int} (h : opdE S o t = e) (he : e ≠ 0) : opdS S o t = S := if_neg (by rw [h]; exact he)
theorem trE_arg {S : Rp} {a : At} (h : attE a ≠ 0) : trE S a = 2 := if_pos h
theorem trE_none {S : Rp} {a : At} (h0 : attE a = 0) (h' : (gget S.O a.out).isSome = false) : trE S a = 5 := by
  have h : gget S.O a.out = none := by simpa using h'
  unfold trE; rw [if_neg (fun q => q h0), if_pos h]
theorem trE_state {S : Rp} {a : At} (h0 : attE a = 0) (h : (gget S.O a.out).isSome = true) (hs : stOf S.A a.out ≠ 2) : trE S a = 8 := by unfold trE; rw [if_neg (fun q => q h0), if_neg (by intro q; rw [q] at h; cases h), if_pos hs]
theorem trE_ok {S : Rp} {a : At} (h0 : attE a = 0) (h : (gget S.O a.out).isSome = true) (hs : stOf S.A a.out = 2) : trE S a = 0 := by unfold trE; rw [if_neg (fun q => q h0), if_neg (by intro q; rw [q] at h; cases h), if_neg (fun q => q hs)]
theorem trS_no {S : Rp} {a : At} {e : Int} (h : trE S a = e) (he : e ≠ 0) : trS S a = S := if_neg (by rw [h]; exact he)
theorem trS_len {S : Rp} {a : At} (h : trE S a = 0) : (trS S a).A.length = S.A.length + 1 := by unfold trS; rw [if_pos h, List.length_append]; rfl
theorem opdS_len (S : Rp) (o : Ky) (t : List UInt8) : (opdS S o t).A = S.A := by unfold opdS; split <;> rfl
end Go.Proofs.YtfoliffeieeihaaGreatDoor
