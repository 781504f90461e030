/-
  The entries of a table of resources, as plain functions. No program in sight.
-/
import Derived.Test.YtjjpmehiolejgaaGreatBundle24
import Derived.Test.YtjjpmehiolejgaaGreatMpg
import Derived.Test.YtjjpmehiolejgaaGreatRf2
import Derived.Test.YtjjpmehiolejgaaGreatFdsP
import Derived.Test.YtjjpmehiolejgaaGreatFdsB
import Derived.Test.YtjjpmehiolejgaaGreatBundle26
namespace Go.Proofs.YtjjpmehiolejgaaGreat
structure Ety where
  d : Ky
  num : Int
  h : Int × Int
def vE (e : Ety) : Value := .agg #[.int .i64 e.d.1, .int .i64 e.d.2.1, .int .u32 e.d.2.2, .int .i64 e.num, .int .i64 e.h.1, .int .u32 e.h.2]
abbrev Tm := List (Int × Ety)
def KN (E : Tm) : Prop := (E.map (·.1)).Nodup
/-- The same entries, in whatever order. -/
def Meq (E0 E : Tm) : Prop := KN E0 ∧ KN E ∧ ∀ k : Int, gget E0 k = gget E k
theorem gget_none {E : Tm} {k : Int} : gget E k = none ↔ k ∉ E.map (·.1) := by
  induction E with
  | nil => simp [gget]
  | cons q E ih =>
    obtain ⟨a, v⟩ := q
    simp only [gget, List.map_cons, List.mem_cons, not_or]
    split
    · rename_i h
      subst h
      simp
    · rename_i h
      rw [ih]
      exact ⟨fun h2 => ⟨h, h2⟩, fun h2 => h2.2⟩
theorem keys_set (E : Tm) (k : Int) (v : Ety) : ∀ a, a ∈ (gset E k v).map (·.1) ↔ a = k ∨ a ∈ E.map (·.1) := by
  induction E with
  | nil => intro a; simp [gset]
  | cons q E ih =>
    intro a
    obtain ⟨b, u⟩ := q
    simp only [gset]
    split
    · rename_i h
      subst h
      simp only [List.map_cons, List.mem_cons]
      constructor
      · rintro (h | h)
        · exact .inl h
        · exact .inr (.inr h)
      · rintro (h | h | h)
        · exact .inl h
        · exact .inl h
        · exact .inr h
    · simp only [List.map_cons, List.mem_cons, ih a]
      constructor
      · rintro (h | h | h)
        · exact .inr (.inl h)
        · exact .inl h
        · exact .inr (.inr h)
      · rintro (h | h | h)
        · exact .inr (.inl h)
        · exact .inl h
        · exact .inr (.inr h)
theorem kn_set {E : Tm} {k : Int} {v : Ety} (h : KN E) : KN (gset E k v) := by
  induction E with
  | nil => exact List.nodup_cons.2 ⟨by simp, List.nodup_nil⟩
  | cons q E ih =>
    obtain ⟨b, u⟩ := q
    have h' : (b :: E.map (·.1)).Nodup := h
    obtain ⟨h1, h2⟩ := List.nodup_cons.1 h'
    unfold KN
    simp only [gset]
    split
    · exact h
    · rename_i hk
      refine List.nodup_cons.2 ⟨fun hm => ?_, ih h2⟩
      rcases (keys_set E k v b).1 hm with h3 | h3
      · exact hk h3.symm
      · exact h1 h3
theorem del_sub (E : Tm) (k : Int) : ((gdel E k).map (·.1)).Sublist (E.map (·.1)) := by
  induction E with
  | nil => exact List.Sublist.refl _
  | cons q E ih =>
    obtain ⟨b, u⟩ := q
    simp only [gdel]
    split
    · exact List.sublist_cons_self _ _
    · exact List.Sublist.cons_cons _ ih
theorem kn_del {E : Tm} {k : Int} (h : KN E) : KN (gdel E k) := List.Nodup.sublist (del_sub E k) h
theorem gget_del_self {E : Tm} {k : Int} (h : KN E) : gget (gdel E k) k = none := by
  induction E with
  | nil => rfl
  | cons q E ih =>
    obtain ⟨b, u⟩ := q
    have h' : (b :: E.map (·.1)).Nodup := h
    obtain ⟨h1, h2⟩ := List.nodup_cons.1 h'
    simp only [gdel]
    split
    · rename_i hk
      subst hk
      exact gget_none.2 h1
    · rename_i hk
      simp only [gget]
      rw [if_neg hk]
      exact ih h2
theorem meq_refl {E : Tm} (h : KN E) : Meq E E := ⟨h, h, fun _ => rfl⟩
theorem meq_set {E0 E : Tm} (h : Meq E0 E) (k : Int) (v : Ety) : Meq (gset E0 k v) (gset E k v) := ⟨kn_set h.1, kn_set h.2.1, fun a => by rw [gget_set, gget_set, h.2.2]⟩
theorem meq_del {E0 E : Tm} (h : Meq E0 E) (k : Int) : Meq (gdel E0 k) (gdel E k) := ⟨kn_del h.1, kn_del h.2.1, fun a => by
  by_cases ha : a = k
  · subst ha
    rw [gget_del_self h.1, gget_del_self h.2.1]
  · rw [gget_del ha, gget_del ha, h.2.2]⟩
/-- The entries by their slots. -/
def someE (E : Tm) (k : Nat) : List Ety := (List.range k).filterMap fun j : Nat => gget E (j : Int)
def allE (E : Tm) : List Ety := someE E 256
theorem someE_go {E : Tm} {k : Nat} {e : Ety} (h : gget E (k : Int) = some e) : someE E (k + 1) = someE E k ++ [e] := by
  unfold someE
  rw [List.range_succ, List.filterMap_append]
  simp [h]
theorem someE_no {E : Tm} {k : Nat} (h : gget E (k : Int) = none) : someE E (k + 1) = someE E k := by
  unfold someE
  rw [List.range_succ, List.filterMap_append]
  simp [h]
theorem someE_pre {E : Tm} {k m : Nat} (h : k ≤ m) : ∃ T, someE E m = someE E k ++ T := by
  obtain ⟨d, rfl⟩ : ∃ d, m = k + d := ⟨m - k, by omega⟩
  induction d with
  | zero => exact ⟨[], by simp⟩
  | succ d ih =>
    obtain ⟨T, hT⟩ := ih (by omega)
    cases hg : gget E ((k + d : Nat) : Int) with
    | none => exact ⟨T, by rw [← Nat.add_assoc, someE_no hg, hT]⟩
    | some e => exact ⟨T ++ [e], by rw [← Nat.add_assoc, someE_go hg, hT, List.append_assoc]⟩
theorem allE_at {E : Tm} {k : Nat} {e : Ety} (h : gget E (k : Int) = some e) (hk : k < 256) : (allE E)[(someE E k).length]? = some e := by
  obtain ⟨T, hT⟩ := someE_pre (E := E) (k := k + 1) (m := 256) hk
  unfold allE
  rw [hT, someE_go h, List.append_assoc, List.getElem?_append_right (Nat.le_refl _), Nat.sub_self]
  rfl
theorem cntE_go {E : Tm} {k : Nat} {e : Ety} (h : gget E (k : Int) = some e) : (someE E (k + 1)).length = (someE E k).length + 1 := by rw [someE_go h, List.length_append]; rfl
theorem cntE_no {E : Tm} {k : Nat} (h : gget E (k : Int) = none) : (someE E (k + 1)).length = (someE E k).length := by rw [someE_no h]
theorem cntE_le (E : Tm) : ∀ k, (someE E k).length ≤ k
  | 0 => Nat.le_refl _
  | k + 1 => by
    have := cntE_le E k
    cases hg : gget E (k : Int) with
    | none => rw [cntE_no hg]; omega
    | some e => rw [cntE_go hg]; omega
def noE : Ety := ⟨(0, 0, 0), 0, (0, 0)⟩
theorem getD_mem {α : Type} {L : List α} {i : Nat} {d : α} (h : i < L.length) : L.getD i d ∈ L := by
  rw [getD_some (List.getElem?_eq_getElem h)]
  exact List.getElem_mem h
theorem getD_all {α : Type} {L : List α} {d : α} {P : α → Prop} (h : ∀ j : Nat, j < L.length → P (L.getD j d)) : ∀ e ∈ L, P e := fun e he => by
  obtain ⟨j, hj⟩ := List.getElem?_of_mem he
  have := h j (List.getElem?_eq_some_iff.1 hj).1
  rw [getD_some hj] at this
  exact this
theorem upto_go {P : Nat → Prop} {i : Nat} (h : ∀ j : Nat, j < i → P j) (hi : P i) : ∀ j : Nat, j < i + 1 → P j := fun j hj => by
  rcases Nat.lt_succ_iff_lt_or_eq.1 hj with h1 | rfl
  · exact h j h1
  · exact hi
theorem ne_pair {p : Int × Int} {a b : Int} (h : ¬ (p.1 = a ∧ p.2 = b)) : p ≠ (a, b) := by
  rintro rfl
  exact h ⟨rfl, rfl⟩
/-- The descriptors of a resource among the first entries. -/
def descT (E : Tm) (v : Int) (i : Nat) : List Ky := ((allE E).take i).filterMap fun e => if e.num = v then some e.d else none
def descs (E : Tm) (v : Int) : List Ky := (allE E).filterMap fun e => if e.num = v then some e.d else none
theorem descT_all (E : Tm) (v : Int) : descT E v (allE E).length = descs E v := by unfold descT descs; rw [List.take_length]
theorem descT_go {E : Tm} {v : Int} {i : Nat} (hi : i < (allE E).length) (h : ((allE E).getD i noE).num = v) : descT E v i ++ [((allE E).getD i noE).d] = descT E v (i + 1) := by
  unfold descT
  rw [← take_getD (d := noE) hi, List.filterMap_append]
  simp only [List.filterMap_cons, List.filterMap_nil, if_pos h]
theorem descT_no {E : Tm} {v : Int} {i : Nat} (hi : i < (allE E).length) (h : ((allE E).getD i noE).num ≠ v) : descT E v i = descT E v (i + 1) := by
  unfold descT
  rw [← take_getD (d := noE) hi, List.filterMap_append]
  simp only [List.filterMap_cons, List.filterMap_nil, if_neg h, List.append_nil]
end Go.Proofs.YtjjpmehiolejgaaGreat

/-
  A table of resources as a whole: what each of its functions answers and leaves, as plain functions. No program in sight.
-/
namespace Go.Proofs.YtjjpmehiolejgaaGreat
structure Ts where
  A : List Sl2
  E : Tm
  R : List Rs
def goodD (d : Ky) : Prop := 1 ≤ d.1 ∧ d.1 ≤ 3 ∧ 0 ≤ d.2.1 ∧ d.2.1 ≤ 255 ∧ 1 ≤ d.2.2
instance (d : Ky) : Decidable (goodD d) := by unfold goodD; infer_instance
def objH (h : Int × Int) : Prop := 0 ≤ h.1 ∧ h.1 ≤ 255 ∧ 1 ≤ h.2
instance (h : Int × Int) : Decidable (objH h) := by unfold objH; infer_instance
def rs0 : Rs := ⟨(0, 0, 0), 0, 0, 0, 0, []⟩
def resR (r : Rs) : Int := resE r.out.1 r.out.2.1 r.out.2.2 r.st r.why r.tr r.nx r.tag
/-- The entry of a descriptor. -/
def fndO (S : Ts) (d : Ky) : Option Ety := match gget S.E d.2.1 with
  | some e => if e.d = d then some e else none
  | none => none
def fndE (S : Ts) (d : Ky) : Int := if goodD d then (if (fndO S d).isSome then 0 else 7) else 2
def fndX (S : Ts) (d : Ky) : Ety := if fndE S d = 0 then (fndO S d).getD noE else noE
def freeS (A : List Sl2) : Option (Nat × Int) := (inS 0 A 0)[0]?
def hasH (E : Tm) (h : Int × Int) : Prop := ∃ e ∈ allE E, e.h = h
instance (E : Tm) (h : Int × Int) : Decidable (hasH E h) := by unfold hasH; infer_instance
def hasO (R : List Rs) (o : Ky) : Prop := ∃ r ∈ R, r.out = o
instance (R : List Rs) (o : Ky) : Decidable (hasO R o) := by unfold hasO; infer_instance
def addS (S : Ts) (k num : Int) (h : Int × Int) : Ts := match freeS S.A with
  | some (j, g) => ⟨S.A.set j (1, g), gset S.E (j : Int) ⟨(k, (j : Int), g), num, h⟩, S.R⟩
  | none => S
def addD (A : List Sl2) (k : Int) : Ky := match freeS A with
  | some (j, g) => (k, (j : Int), g)
  | none => (0, 0, 0)
/-- Open: the error, what is left, the descriptor. -/
def newE (o : Ky) (L : List UInt8) : Int := resE o.1 o.2.1 o.2.2 1 0 0 0 L
def opnE (S : Ts) (o : Ky) (L : List UInt8) (h : Int × Int) : Int := if newE o L ≠ 0 then newE o L else if ¬ objH h then 2 else if hasO S.R o ∨ hasH S.E h then 6 else if 2000 ≤ S.R.length ∨ freeS S.A = none then 4 else 0
def opnS (S : Ts) (o : Ky) (L : List UInt8) (h : Int × Int) : Ts := if opnE S o L h = 0 then addS ⟨S.A, S.E, S.R ++ [⟨o, 1, 0, 0, 0, L⟩]⟩ o.1 ((S.R.length : Int) + 1) h else S
def opnD (S : Ts) (o : Ky) (L : List UInt8) (h : Int × Int) : Ky := if opnE S o L h = 0 then addD S.A o.1 else (0, 0, 0)
def dupE (S : Ts) (d : Ky) (h : Int × Int) : Int := if ¬ objH h then 2 else if fndE S d ≠ 0 then fndE S d else if hasH S.E h then 6 else if freeS S.A = none then 4 else 0
def dupS (S : Ts) (d : Ky) (h : Int × Int) : Ts := if dupE S d h = 0 then addS S d.1 (fndX S d).num h else S
def dupD (S : Ts) (d : Ky) (h : Int × Int) : Ky := if dupE S d h = 0 then addD S.A d.1 else (0, 0, 0)
def dropS (S : Ts) (d : Ky) : Ts := ⟨giveA S.A d.2.1.toNat d.2.2, gdel S.E d.2.1, S.R⟩
def clsS (S : Ts) (d : Ky) : Ts := if fndE S d = 0 then dropS S d else S
def clsL (S : Ts) (d : Ky) : Bool := decide (fndE S d = 0 ∧ (descs (dropS S d).E (fndX S d).num).length = 0)
def atX (S : Ts) (v : Int) : Ety := (gget S.E v).getD noE
def nE (S : Ts) (v : Int) : Int := if 1 ≤ v ∧ v ≤ (S.R.length : Int) then 0 else 3
def getR (S : Ts) (v : Int) : Rs := if 1 ≤ v then (S.R[(v - 1).toNat]?).getD rs0 else rs0
def expS (S : Ts) (v : Int) : Ts := (descs S.E v).foldl dropS S
def setE (S : Ts) (v : Int) (r : Rs) : Int := if nE S v ≠ 0 then 3 else if resR r ≠ 0 then resR r else if r.out ≠ (getR S v).out ∨ r.tag ≠ (getR S v).tag then 2 else if r.st ≠ 1 ∧ 0 < (descs S.E v).length then 8 else 0
def setS (S : Ts) (v : Int) (r : Rs) : Ts := if setE S v r = 0 then ⟨S.A, S.E, S.R.set (v - 1).toNat r⟩ else S
def numsT (R : List Rs) (st : Int) (k : Nat) : List Int := ((List.range k).filter fun i => (R[i]?).any fun r => r.st == st).map fun i : Nat => (i : Int) + 1
def nums (R : List Rs) (st : Int) : List Int := numsT R st R.length
/-- What is true of every table. -/
structure Wf (n : Nat) (S : Ts) : Prop where
  len : S.A.length = n
  bd : 1 ≤ n ∧ n ≤ 256
  ok : SlOk S.A
  rl : S.R.length ≤ 2000
  nd : KN S.E
  ent : ∀ (k : Int) (e : Ety), gget S.E k = some e → (∃ q : Nat, k = (q : Int) ∧ S.A[q]? = some (1, e.d.2.2)) ∧ e.d.2.1 = k ∧ (∃ (q : Nat) (r : Rs), S.R[q]? = some r ∧ e.num = (q : Int) + 1 ∧ r.out.1 = e.d.1 ∧ r.st = 1) ∧ objH e.h
  tak : ∀ (q : Nat) (g : Int), S.A[q]? = some (1, g) → ∃ e, gget S.E (q : Int) = some e
  res : ∀ r ∈ S.R, resR r = 0
  out : (S.R.map (·.out)).Nodup
  og : ∀ r ∈ S.R, r.out.2.2 ≤ 4294967295
  hnd : ∀ (k1 k2 : Int) (e1 e2 : Ety), gget S.E k1 = some e1 → gget S.E k2 = some e2 → e1.h = e2.h → k1 = k2
theorem fndO_some {S : Ts} {d : Ky} {e : Ety} : fndO S d = some e ↔ gget S.E d.2.1 = some e ∧ e.d = d := by
  unfold fndO
  cases h : gget S.E d.2.1 with
  | none => simp
  | some x =>
    simp only
    split
    · rename_i hx
      constructor
      · intro he
        obtain rfl := Option.some.inj he
        exact ⟨rfl, hx⟩
      · rintro ⟨he, _⟩
        exact he
    · rename_i hx
      constructor
      · intro he; cases he
      · rintro ⟨he, h2⟩
        obtain rfl := Option.some.inj he
        exact absurd h2 hx
theorem fndE_ok {S : Ts} {d : Ky} : fndE S d = 0 ↔ goodD d ∧ ∃ e, gget S.E d.2.1 = some e ∧ e.d = d := by
  unfold fndE
  split
  · rename_i hg
    cases h : fndO S d with
    | none =>
      simp only [Option.isSome_none, Bool.false_eq_true, if_false]
      constructor
      · intro h2; omega
      · rintro ⟨_, e, he⟩
        have := fndO_some.2 he
        rw [h] at this
        cases this
    | some e => simp only [Option.isSome_some, if_true]; exact ⟨fun _ => ⟨hg, e, fndO_some.1 h⟩, fun _ => trivial⟩
  · rename_i hg
    constructor
    · intro h2; omega
    · rintro ⟨h2, _⟩; exact absurd h2 hg
theorem fndX_ok {S : Ts} {d : Ky} {e : Ety} (hg : goodD d) (h1 : gget S.E d.2.1 = some e) (h2 : e.d = d) : fndE S d = 0 ∧ fndX S d = e := by
  have h0 : fndE S d = 0 := fndE_ok.2 ⟨hg, e, h1, h2⟩
  refine ⟨h0, ?_⟩
  unfold fndX
  rw [if_pos h0, fndO_some.2 ⟨h1, h2⟩]
  rfl
theorem fndX_bad {S : Ts} {d : Ky} (hg : ¬ goodD d) : fndE S d = 2 ∧ fndX S d = noE := by
  have h0 : fndE S d = 2 := if_neg hg
  refine ⟨h0, ?_⟩
  unfold fndX
  rw [if_neg (by omega)]
theorem fndX_no {S : Ts} {d : Ky} (hg : goodD d) (h : ∀ e, gget S.E d.2.1 = some e → e.d ≠ d) : fndE S d = 7 ∧ fndX S d = noE := by
  have h0 : fndE S d = 7 := by
    unfold fndE
    rw [if_pos hg]
    cases h2 : fndO S d with
    | none => rfl
    | some e => exact absurd (fndO_some.1 h2).2 (h e (fndO_some.1 h2).1)
  refine ⟨h0, ?_⟩
  unfold fndX
  rw [if_neg (by omega)]
/-- The three cases of a descriptor. -/
theorem fnd_cases (S : Ts) (d : Ky) : (¬ goodD d ∧ fndE S d = 2 ∧ fndX S d = noE) ∨ (goodD d ∧ (∀ e, gget S.E d.2.1 = some e → e.d ≠ d) ∧ fndE S d = 7 ∧ fndX S d = noE) ∨ (goodD d ∧ ∃ e, gget S.E d.2.1 = some e ∧ e.d = d ∧ fndE S d = 0 ∧ fndX S d = e) := by
  by_cases hg : goodD d
  · by_cases h : ∃ e, gget S.E d.2.1 = some e ∧ e.d = d
    · obtain ⟨e, h1, h2⟩ := h
      exact .inr (.inr ⟨hg, e, h1, h2, fndX_ok hg h1 h2⟩)
    · have h' : ∀ e, gget S.E d.2.1 = some e → e.d ≠ d := fun e h1 h2 => h ⟨e, h1, h2⟩
      exact .inr (.inl ⟨hg, h', fndX_no hg h'⟩)
  · exact .inl ⟨hg, fndX_bad hg⟩
theorem mem_allE {E : Tm} {e : Ety} : e ∈ allE E ↔ ∃ k : Nat, k < 256 ∧ gget E (k : Int) = some e := by
  unfold allE someE
  rw [List.mem_filterMap]
  constructor
  · rintro ⟨k, hk, he⟩; exact ⟨k, List.mem_range.1 hk, he⟩
  · rintro ⟨k, hk, he⟩; exact ⟨k, List.mem_range.2 hk, he⟩
theorem freeS_some {A : List Sl2} {j : Nat} {g : Int} (h : freeS A = some (j, g)) : A[j]? = some (0, g) := by
  have := (inS_mem h).2
  simpa using this
theorem freeS_none {A : List Sl2} : freeS A = none ↔ (inS 0 A 0).length = 0 := by
  unfold freeS
  rw [List.getElem?_eq_none_iff]
  omega
theorem giveA_get {A : List Sl2} {q : Nat} {z : Int} {j : Nat} (h : j ≠ q) : (giveA A q z)[j]? = A[j]? := by
  unfold giveA
  split
  · rw [List.getElem?_set_ne (Ne.symm h)]
  · rw [List.getElem?_set_ne (Ne.symm h)]
theorem giveA_self {A : List Sl2} {q : Nat} {z : Int} (h : q < A.length) : (giveA A q z)[q]? = some (if z < 4294967295 then (0, z + 1) else (2, z)) := by
  unfold giveA
  split
  · rw [List.getElem?_set_self h]
  · rw [List.getElem?_set_self h]
theorem giveA_len (A : List Sl2) (q : Nat) (z : Int) : (giveA A q z).length = A.length := by unfold giveA; split <;> rw [List.length_set]
theorem wf_slot {n : Nat} {S : Ts} (W : Wf n S) {k : Int} {e : Ety} (h : gget S.E k = some e) : ∃ q : Nat, k = (q : Int) ∧ q < n ∧ S.A[q]? = some (1, e.d.2.2) := by
  obtain ⟨⟨q, h1, h2⟩, _⟩ := W.ent k e h
  exact ⟨q, h1, by have := (List.getElem?_eq_some_iff.1 h2).1; rw [W.len] at this; exact this, h2⟩
theorem wf_all {n : Nat} {S : Ts} (W : Wf n S) {k : Int} {e : Ety} (h : gget S.E k = some e) : e ∈ allE S.E := by
  obtain ⟨q, h1, h2, _⟩ := wf_slot W h
  exact mem_allE.2 ⟨q, by have := W.bd.2; omega, by rw [← h1]; exact h⟩
theorem wf_good {n : Nat} {S : Ts} (W : Wf n S) {k : Int} {e : Ety} (h : gget S.E k = some e) : goodD e.d := by
  obtain ⟨⟨q, h1, h2⟩, h3, ⟨p, r, hp, _, hk, _⟩, _⟩ := W.ent k e h
  obtain ⟨q', h1', h2', _⟩ := wf_slot W h
  have hr := W.res r (List.mem_of_getElem? hp)
  have hs := W.ok _ (List.mem_of_getElem? h2)
  have hb := W.bd.2
  unfold resR resE at hr
  split at hr
  · rename_i hpos
    have hx := hpos.1
    unfold goodD
    simp only at hs
    omega
  · omega
theorem wf_add {n : Nat} {S : Ts} (W : Wf n S) {k num : Int} {h : Int × Int} {q : Nat} {r : Rs} (hr : S.R[q]? = some r) (hn : num = (q : Int) + 1) (hk : r.out.1 = k) (hst : r.st = 1) (ho : objH h) (hh : ¬ hasH S.E h) : Wf n (addS S k num h) := by
  unfold addS
  cases hf : freeS S.A with
  | none => exact W
  | some p =>
    obtain ⟨j, g⟩ := p
    have hj := freeS_some hf
    have hjl := (List.getElem?_eq_some_iff.1 hj).1
    have hno : gget S.E (j : Int) = none := by
      cases hg : gget S.E (j : Int) with
      | none => rfl
      | some e =>
        obtain ⟨q2, h1, _, h2⟩ := wf_slot W hg
        obtain rfl : j = q2 := by omega
        rw [hj] at h2
        simp at h2
    refine ⟨by simp only [List.length_set]; exact W.len, W.bd, slOk_set W.ok (by have := W.ok _ (List.mem_of_getElem? hj); simp only at this ⊢; omega), W.rl, kn_set W.nd, ?_, ?_, W.res, W.out, W.og, ?_⟩
    · intro k2 e2 he
      simp only at he
      rw [gget_set] at he
      split at he
      · rename_i hk2
        obtain rfl := Option.some.inj he
        refine ⟨⟨j, hk2, List.getElem?_set_self hjl⟩, hk2.symm, ⟨q, r, hr, hn, hk, hst⟩, ho⟩
      · rename_i hk2
        obtain ⟨⟨q2, h1, h2⟩, h3, h4, h5⟩ := W.ent k2 e2 he
        refine ⟨⟨q2, h1, ?_⟩, h3, h4, h5⟩
        simp only
        rw [List.getElem?_set_ne (by rintro rfl; exact hk2 h1)]
        exact h2
    · intro q2 g2 hq
      simp only at hq ⊢
      rw [gget_set]
      split
      · exact ⟨_, rfl⟩
      · rename_i hq2
        rw [List.getElem?_set_ne (by rintro rfl; exact hq2 rfl)] at hq
        exact W.tak q2 g2 hq
    · intro k1 k2 e1 e2 h1 h2 he
      simp only at h1 h2
      rw [gget_set] at h1 h2
      split at h1
      · rename_i hk1
        split at h2
        · rename_i hk2; rw [hk1, hk2]
        · obtain rfl := Option.some.inj h1
          exact absurd ⟨e2, wf_all W h2, he.symm⟩ hh
      · split at h2
        · obtain rfl := Option.some.inj h2
          exact absurd ⟨e1, wf_all W h1, he⟩ hh
        · exact W.hnd k1 k2 e1 e2 h1 h2 he
theorem newE_cases (o : Ky) (L : List UInt8) : (¬ (1 ≤ o.1 ∧ o.1 ≤ 3 ∧ 0 ≤ o.2.1 ∧ o.2.1 ≤ 63 ∧ 1 ≤ o.2.2) ∧ newE o L = 2) ∨ ((1 ≤ o.1 ∧ o.1 ≤ 3 ∧ 0 ≤ o.2.1 ∧ o.2.1 ≤ 63 ∧ 1 ≤ o.2.2) ∧ newE o L = tagE L) := by
  unfold newE resE posP
  by_cases h : 1 ≤ o.1 ∧ o.1 ≤ 3 ∧ 0 ≤ o.2.1 ∧ o.2.1 ≤ 63 ∧ 1 ≤ o.2.2
  · exact .inr ⟨h, if_pos ⟨h, .inl ⟨rfl, rfl, rfl, rfl⟩⟩⟩
  · exact .inl ⟨h, if_neg fun h2 => h h2.1⟩
theorem opnE_ok {S : Ts} {o : Ky} {L : List UInt8} {h : Int × Int} (h0 : opnE S o L h = 0) : newE o L = 0 ∧ objH h ∧ ¬ hasO S.R o ∧ ¬ hasH S.E h ∧ S.R.length < 2000 ∧ ∃ j g, freeS S.A = some (j, g) := by
  unfold opnE at h0
  by_cases h1 : newE o L = 0
  · rw [if_neg (by omega)] at h0
    by_cases h2 : objH h
    · rw [if_neg (by simpa using h2)] at h0
      split at h0
      · omega
      · rename_i h3
        split at h0
        · omega
        · rename_i h4
          refine ⟨h1, h2, fun hh => h3 (.inl hh), fun hh => h3 (.inr hh), by omega, ?_⟩
          cases hf : freeS S.A with
          | none => exact absurd (.inr hf) h4
          | some p => exact ⟨p.1, p.2, rfl⟩
    · rw [if_pos h2] at h0; omega
  · rw [if_pos h1] at h0; omega
theorem wf_app {n : Nat} {S : Ts} (W : Wf n S) {r : Rs} (hl : S.R.length < 2000) (hr : resR r = 0) (ho : ¬ hasO S.R r.out) (hg : r.out.2.2 ≤ 4294967295) : Wf n ⟨S.A, S.E, S.R ++ [r]⟩ := by
  refine ⟨W.len, W.bd, W.ok, by simp only [List.length_append, List.length_cons, List.length_nil]; omega, W.nd, ?_, W.tak, ?_, ?_, ?_, W.hnd⟩
  · intro k e he
    obtain ⟨h1, h2, ⟨q, r2, h3, h4⟩, h5⟩ := W.ent k e he
    exact ⟨h1, h2, ⟨q, r2, by simp only; rw [List.getElem?_append_left (List.getElem?_eq_some_iff.1 h3).1]; exact h3, h4⟩, h5⟩
  · intro r2 h2
    rcases List.mem_append.1 h2 with h3 | h3
    · exact W.res r2 h3
    · rw [List.mem_singleton.1 h3]; exact hr
  · simp only [List.map_append, List.map_cons, List.map_nil]
    refine List.nodup_append.2 ⟨W.out, by simp, ?_⟩
    intro a ha b hb hab
    obtain ⟨r2, h3, h4⟩ := List.mem_map.1 ha
    rw [List.mem_singleton.1 hb] at hab
    exact ho ⟨r2, h3, h4.trans hab⟩
  · intro r2 h2
    rcases List.mem_append.1 h2 with h3 | h3
    · exact W.og r2 h3
    · rw [List.mem_singleton.1 h3]; exact hg
theorem wf_opn {n : Nat} {S : Ts} (W : Wf n S) {o : Ky} (hg : o.2.2 ≤ 4294967295) (L : List UInt8) (h : Int × Int) : Wf n (opnS S o L h) := by
  unfold opnS
  split
  · rename_i h0
    obtain ⟨h1, h2, h3, h4, h5, _⟩ := opnE_ok h0
    have W2 := wf_app W (r := ⟨o, 1, 0, 0, 0, L⟩) h5 h1 h3 hg
    exact wf_add W2 (q := S.R.length) (r := ⟨o, 1, 0, 0, 0, L⟩) (by simp) rfl rfl rfl h2 h4
  · exact W
theorem dupE_ok {S : Ts} {d : Ky} {h : Int × Int} (h0 : dupE S d h = 0) : objH h ∧ fndE S d = 0 ∧ ¬ hasH S.E h ∧ ∃ j g, freeS S.A = some (j, g) := by
  unfold dupE at h0
  by_cases h2 : objH h
  · rw [if_neg (by simpa using h2)] at h0
    by_cases h1 : fndE S d = 0
    · rw [if_neg (by omega)] at h0
      split at h0
      · omega
      · rename_i h3
        split at h0
        · omega
        · rename_i h4
          refine ⟨h2, h1, h3, ?_⟩
          cases hf : freeS S.A with
          | none => exact absurd hf h4
          | some p => exact ⟨p.1, p.2, rfl⟩
    · rw [if_pos h1] at h0; omega
  · rw [if_pos h2] at h0; omega
theorem wf_dup {n : Nat} {S : Ts} (W : Wf n S) (d : Ky) (h : Int × Int) : Wf n (dupS S d h) := by
  unfold dupS
  split
  · rename_i h0
    obtain ⟨h1, h2, h3, _⟩ := dupE_ok h0
    obtain ⟨hg, e, he, hd⟩ := fndE_ok.1 h2
    obtain ⟨_, _, ⟨q, r, h4, h5, h6, h7⟩, _⟩ := W.ent _ e he
    rw [(fndX_ok hg he hd).2]
    exact wf_add W h4 h5 (by rw [h6, hd]) h7 h1 h3
  · exact W
theorem wf_drop {n : Nat} {S : Ts} (W : Wf n S) {d : Ky} {e : Ety} (he : gget S.E d.2.1 = some e) (hd : e.d = d) : Wf n (dropS S d) := by
  obtain ⟨q, h1, h2, h3⟩ := wf_slot W he
  have hq : d.2.1.toNat = q := by omega
  have hql : q < S.A.length := by rw [W.len]; exact h2
  have hg := wf_good W he
  rw [hd] at hg h3
  have hd4 := W.ok _ (List.mem_of_getElem? h3)
  simp only at hd4
  unfold dropS
  rw [hq]
  refine ⟨by simp only; rw [giveA_len]; exact W.len, W.bd, slOk_give W.ok h3 rfl, W.rl, kn_del W.nd, ?_, ?_, W.res, W.out, W.og, ?_⟩
  · intro k2 e2 h5
    simp only at h5
    by_cases hk : k2 = d.2.1
    · subst hk; rw [gget_del_self W.nd] at h5; cases h5
    · rw [gget_del hk] at h5
      obtain ⟨⟨q2, h6, h7⟩, h8⟩ := W.ent k2 e2 h5
      refine ⟨⟨q2, h6, ?_⟩, h8⟩
      simp only
      rw [giveA_get (by rintro rfl; exact hk (h6.trans h1.symm))]
      exact h7
  · intro q2 g2 h5
    simp only at h5 ⊢
    by_cases hk : q2 = q
    · subst hk
      rw [giveA_self hql] at h5
      split at h5 <;> simp at h5
    · rw [giveA_get hk] at h5
      rw [gget_del (by omega)]
      exact W.tak q2 g2 h5
  · intro k1 k2 e1 e2 h5 h6 h7
    simp only at h5 h6
    by_cases hk1 : k1 = d.2.1
    · subst hk1; rw [gget_del_self W.nd] at h5; cases h5
    · by_cases hk2 : k2 = d.2.1
      · subst hk2; rw [gget_del_self W.nd] at h6; cases h6
      · rw [gget_del hk1] at h5
        rw [gget_del hk2] at h6
        exact W.hnd k1 k2 e1 e2 h5 h6 h7
theorem wf_cls {n : Nat} {S : Ts} (W : Wf n S) (d : Ky) : Wf n (clsS S d) := by
  unfold clsS
  split
  · rename_i h0
    obtain ⟨_, e, h1, h2⟩ := fndE_ok.1 h0
    exact wf_drop W h1 h2
  · exact W
/-- The descriptors of a resource are entries of the table, each once. -/
theorem mem_descs {E : Tm} {v : Int} {d : Ky} : d ∈ descs E v ↔ ∃ e ∈ allE E, e.num = v ∧ e.d = d := by
  unfold descs
  rw [List.mem_filterMap]
  constructor
  · rintro ⟨e, h1, h2⟩
    split at h2
    · rename_i h3; exact ⟨e, h1, h3, Option.some.inj h2⟩
    · cases h2
  · rintro ⟨e, h1, h2, h3⟩
    exact ⟨e, h1, by rw [if_pos h2, h3]⟩
theorem wf_mem {n : Nat} {S : Ts} (W : Wf n S) {e : Ety} (h : e ∈ allE S.E) : gget S.E e.d.2.1 = some e := by
  obtain ⟨k, hk, he⟩ := mem_allE.1 h
  rw [(W.ent _ e he).2.1]
  exact he
/-- The slots of the entries, in order, are all different. -/
theorem someE_lt {n : Nat} {S : Ts} (W : Wf n S) (k : Nat) : ((someE S.E k).map (·.d.2.1)).Pairwise (· < ·) ∧ ∀ e ∈ someE S.E k, e.d.2.1 < (k : Int) := by
  induction k with
  | zero => exact ⟨List.Pairwise.nil, fun e he => by simp [someE] at he⟩
  | succ k ih =>
    cases hg : gget S.E (k : Int) with
    | none => rw [someE_no hg]; exact ⟨ih.1, fun e he => by have := ih.2 e he; omega⟩
    | some e =>
      have hk := (W.ent _ e hg).2.1
      rw [someE_go hg]
      constructor
      · rw [List.map_append, List.pairwise_append]
        refine ⟨ih.1, by simp, ?_⟩
        intro a ha b hb
        obtain ⟨x, h1, rfl⟩ := List.mem_map.1 ha
        simp only [List.map_cons, List.map_nil, List.mem_singleton] at hb
        rw [hb, hk]
        exact ih.2 x h1
      · intro x hx
        rcases List.mem_append.1 hx with h1 | h1
        · have := ih.2 x h1; omega
        · rw [List.mem_singleton.1 h1, hk]; omega
theorem allE_lt {n : Nat} {S : Ts} (W : Wf n S) : ((allE S.E).map (·.d.2.1)).Pairwise (· < ·) := (someE_lt W 256).1
theorem descs_sub (E : Tm) (v : Int) : (descs E v).Sublist ((allE E).map (·.d)) := by
  unfold descs
  induction allE E with
  | nil => exact List.Sublist.refl _
  | cons e L ih =>
    simp only [List.filterMap_cons, List.map_cons]
    split
    · exact List.Sublist.cons _ ih
    · rename_i h
      split at h
      · obtain rfl := Option.some.inj h; exact List.Sublist.cons_cons _ ih
      · cases h
theorem descs_lt {n : Nat} {S : Ts} (W : Wf n S) (v : Int) : ((descs S.E v).map (·.2.1)).Pairwise (· < ·) := by
  have h := allE_lt W
  have h2 : (allE S.E).map (·.d.2.1) = ((allE S.E).map (·.d)).map (·.2.1) := by rw [List.map_map]; rfl
  rw [h2] at h
  exact h.sublist ((descs_sub S.E v).map _)
theorem descs_nil {n : Nat} {S : Ts} (W : Wf n S) {v : Int} (h : ¬ (1 ≤ v ∧ v ≤ (S.R.length : Int))) : descs S.E v = [] := by
  cases hd : descs S.E v with
  | nil => rfl
  | cons d D =>
    have hm : d ∈ descs S.E v := by rw [hd]; exact List.mem_cons_self
    obtain ⟨e, h1, h2, h3⟩ := mem_descs.1 hm
    obtain ⟨_, _, ⟨q, r, h4, h5, _⟩, _⟩ := W.ent _ e (wf_mem W h1)
    have := (List.getElem?_eq_some_iff.1 h4).1
    omega
/-- Several descriptors that are there, of different slots, are dropped. -/
theorem wf_drops {n : Nat} : ∀ {D : List Ky} {S : Ts}, Wf n S → (∀ d ∈ D, ∃ e, gget S.E d.2.1 = some e ∧ e.d = d) → (D.map (·.2.1)).Pairwise (· < ·) → Wf n (D.foldl dropS S)
  | [], _, W, _, _ => W
  | d :: D, S, W, h, hp => by
    obtain ⟨e, h1, h2⟩ := h d List.mem_cons_self
    rw [List.map_cons, List.pairwise_cons] at hp
    refine wf_drops (D := D) (S := dropS S d) (wf_drop W h1 h2) (fun d2 hd2 => ?_) hp.2
    obtain ⟨e2, h3, h4⟩ := h d2 (List.mem_cons_of_mem _ hd2)
    have := hp.1 _ (List.mem_map_of_mem (f := (·.2.1)) hd2)
    exact ⟨e2, by unfold dropS; simp only; rw [gget_del (by omega)]; exact h3, h4⟩
theorem wf_exp {n : Nat} {S : Ts} (W : Wf n S) (v : Int) : Wf n (expS S v) := wf_drops W (fun d hd => by
  obtain ⟨e, h1, _, h3⟩ := mem_descs.1 hd
  exact ⟨e, by rw [← h3]; exact wf_mem W h1, h3⟩) (descs_lt W v)
theorem set_self {α : Type} {l : List α} {i : Nat} {x : α} (h : l[i]? = some x) : l.set i x = l := by
  apply List.ext_getElem?
  intro j
  by_cases hj : i = j
  · subst hj
    rw [List.getElem?_set_self (List.getElem?_eq_some_iff.1 h).1, h]
  · rw [List.getElem?_set_ne hj]
theorem setE_ok {S : Ts} {v : Int} {r : Rs} (h0 : setE S v r = 0) : (1 ≤ v ∧ v ≤ (S.R.length : Int)) ∧ resR r = 0 ∧ r.out = (getR S v).out ∧ r.tag = (getR S v).tag ∧ (r.st = 1 ∨ (descs S.E v).length = 0) := by
  unfold setE at h0
  split at h0
  · omega
  · rename_i h1
    split at h0
    · omega
    · rename_i h2
      split at h0
      · omega
      · rename_i h3
        split at h0
        · omega
        · rename_i h4
          refine ⟨?_, by omega, ?_, ?_, by omega⟩
          · unfold nE at h1
            split at h1
            · assumption
            · omega
          · exact Classical.byContradiction fun h => h3 (.inl h)
          · exact Classical.byContradiction fun h => h3 (.inr h)
theorem getR_at {S : Ts} {v : Int} (h : 1 ≤ v ∧ v ≤ (S.R.length : Int)) : S.R[(v - 1).toNat]? = some (getR S v) := by
  have hl : (v - 1).toNat < S.R.length := by omega
  unfold getR
  rw [if_pos h.1, List.getElem?_eq_getElem hl]
  rfl
theorem getR_no {S : Ts} {v : Int} (h : ¬ (1 ≤ v ∧ v ≤ (S.R.length : Int))) : getR S v = rs0 := by
  unfold getR
  split
  · rw [List.getElem?_eq_none (by omega)]; rfl
  · rfl
theorem wf_set {n : Nat} {S : Ts} (W : Wf n S) (v : Int) (r : Rs) : Wf n (setS S v r) := by
  unfold setS
  split
  · rename_i h0
    obtain ⟨h1, h2, h3, h4, h5⟩ := setE_ok h0
    have hg := getR_at h1
    have hl := (List.getElem?_eq_some_iff.1 hg).1
    refine ⟨W.len, W.bd, W.ok, by simp only [List.length_set]; exact W.rl, W.nd, ?_, W.tak, ?_, ?_, ?_, W.hnd⟩
    · intro k e he
      obtain ⟨e1, e2, ⟨q, r2, e3, e4, e5, e6⟩, e7⟩ := W.ent k e he
      refine ⟨e1, e2, ?_, e7⟩
      by_cases hq : q = (v - 1).toNat
      · refine ⟨q, r, by simp only; rw [hq, List.getElem?_set_self hl], e4, ?_, ?_⟩
        · subst hq
          rw [hg] at e3
          obtain rfl := Option.some.inj e3
          rw [h3]; exact e5
        · rcases h5 with h5 | h5
          · exact h5
          · exfalso
            have hm : e.d ∈ descs S.E v := mem_descs.2 ⟨e, wf_all W he, by omega, rfl⟩
            rw [List.length_eq_zero_iff.1 h5] at hm
            cases hm
      · exact ⟨q, r2, by simp only; rw [List.getElem?_set_ne (Ne.symm hq)]; exact e3, e4, e5, e6⟩
    · intro r2 hr2
      rcases List.mem_or_eq_of_mem_set hr2 with h6 | h6
      · exact W.res r2 h6
      · rw [h6]; exact h2
    · have : (S.R.set (v - 1).toNat r).map (·.out) = S.R.map (·.out) := by
        rw [List.map_set]
        have h7 : (S.R.map (·.out))[(v - 1).toNat]? = some r.out := by rw [List.getElem?_map, hg, h3]; rfl
        rw [set_self h7]
      simp only
      rw [this]
      exact W.out
    · intro r2 hr2
      rcases List.mem_or_eq_of_mem_set hr2 with h6 | h6
      · exact W.og r2 h6
      · rw [h6, h3]; exact W.og _ (List.mem_of_getElem? hg)
  · exact W
theorem wf_new {n : Nat} {g : Int} (hn : 1 ≤ n ∧ n ≤ 256) (hg : 1 ≤ g ∧ g ≤ 4294967295) : Wf n ⟨List.replicate n (0, g), [], []⟩ := by
  refine ⟨List.length_replicate, hn, ?_, by simp, List.nodup_nil, ?_, ?_, ?_, List.nodup_nil, (fun r hr => by cases hr), ?_⟩
  · intro s hs
    have := List.eq_of_mem_replicate hs
    subst this
    simp only
    omega
  · intro k e he; cases he
  · intro q g2 hq
    simp only at hq
    rw [List.getElem?_replicate] at hq
    split at hq
    · simp at hq
    · cases hq
  · intro r hr; cases hr
  · intro k1 k2 e1 e2 h1; cases h1
end Go.Proofs.YtjjpmehiolejgaaGreat

/- Walks, printed by my generator z3.py. -/
namespace Go.Proofs.YtjjpmehiolejgaaGreat
/-- The document's slots. -/
def Zs (b n : Nat) (A : List Sl2) : Assn := fun h => ∃ x : Option Addr × Nat, (A.length = n ∧ 1 ≤ n ∧ n ≤ 256 ∧ SlOk A) ∧ star [Cl b [.slice x.1 n x.2] 118, Sl 120 2 x.1 n x.2 (fl eSl A)] h
section
variable {g w : World} {L : List Assn} {b n : Nat} {A : List Sl2}
theorem zs_open (h : sat g w (Zs b n A :: L)) : ∃ p c, (A.length = n ∧ 1 ≤ n ∧ n ≤ 256 ∧ SlOk A) ∧ sat g w (Cl b [.slice p n c] 118 :: Sl 120 2 p n c (fl eSl A) :: L) := by
  obtain ⟨⟨p, c⟩, h1, h2⟩ := sat_open (X := Option Addr × Nat) (p := fun _ => A.length = n ∧ 1 ≤ n ∧ n ≤ 256 ∧ SlOk A) (B := fun x => star [Cl b [.slice x.1 n x.2] 118, Sl 120 2 x.1 n x.2 (fl eSl A)]) h (fun k hk => hk)
  exact ⟨p, c, h1, sat_unstar h2⟩
theorem zs_close {p : Option Addr} {c : Nat} (hp : A.length = n ∧ 1 ≤ n ∧ n ≤ 256 ∧ SlOk A) (h : sat g w (Cl b [.slice p n c] 118 :: Sl 120 2 p n c (fl eSl A) :: L)) : sat g w (Zs b n A :: L) :=
  sat_imp (sat_star (K := [Cl b [.slice p n c] 118, Sl 120 2 p n c (fl eSl A)]) h) fun k hk => ⟨(p, c), hp, hk⟩
end
theorem zs_set {A : List Sl2} {n i : Nat} {x : Sl2} (h : A.length = n ∧ 1 ≤ n ∧ n ≤ 256 ∧ SlOk A) (hx : 0 ≤ x.1 ∧ x.1 ≤ 2 ∧ 1 ≤ x.2 ∧ x.2 ≤ 4294967295) : (A.set i x).length = n ∧ 1 ≤ n ∧ n ≤ 256 ∧ SlOk (A.set i x) := ⟨by rw [List.length_set]; exact h.1, h.2.1, h.2.2.1, slOk_set h.2.2.2 hx⟩
theorem cnt_free {A : List Sl2} {i j : Nat} {g : Int} {s : Sl2} (hf : freeS A = some (j, g)) (hc : cnt 0 A i = 0) (h : A[i]? = some s) (hs : s.1 = 0) : j = i ∧ g = s.2 := by
  have h1 := inS_at h hs
  unfold freeS at hf
  rw [hc] at h1
  rw [h1] at hf
  simp only [Option.some.injEq, Prod.mk.injEq] at hf
  exact ⟨hf.1.symm, hf.2.symm⟩
theorem cnt_end {A : List Sl2} {i j : Nat} {g : Int} (hf : freeS A = some (j, g)) (hc : cnt 0 A i = 0) (h : A.length ≤ i) : False := by
  rw [cnt_all 0 h] at hc
  rw [freeS_none.2 hc] at hf
  cases hf
set_option maxHeartbeats 4000000 in
theorem zvalid_cl (b : Nat) (p : Option Addr) (n c : Nat) (hn : 0 < n) : HT Tryz.prog 88 [Value.pointer (some ⟨b, 0, none⟩)] [Cl b [Value.slice p n c] 118] (fun v K => v = Value.bool true ∧ K = [Cl b [Value.slice p n c] 118]) := by
 refine hiS Tryz.func88 Tryz.ntmps88 fun g w0 R h0 => go [rd 1 6 0 0 1 h0, .v 1 8 (oT ((n : Int) > 0))] ?_
 exact en (.bool true) [] ⟨_, _, rfl, ⟨rfl, rfl⟩, h0⟩

set_option maxHeartbeats 4000000 in
theorem g1c_no (vg : Int) (h : vg = 0) : HT Tryz.prog 68 [Value.int IntKind.u32 vg] [] (fun v K => v = Value.int IntKind.i64 2 ∧ K = []) := by
 refine hiS Tryz.func68 Tryz.ntmps68 fun g w0 R h0 => go [.v 1 1 (eT vg 0)] ?_
 exact en (iV 2) [] ⟨_, _, rfl, ⟨rfl, rfl⟩, h0⟩

set_option maxHeartbeats 4000000 in
theorem g1c_ok (vg : Int) (h : ¬ vg = 0) : HT Tryz.prog 68 [Value.int IntKind.u32 vg] [] (fun v K => v = Value.int IntKind.i64 0 ∧ K = []) := by
 refine hiS Tryz.func68 Tryz.ntmps68 fun g w0 R h0 => go [.v 1 1 (eF vg 0)] ?_
 exact en (iV 0) [] ⟨_, _, rfl, ⟨rfl, rfl⟩, h0⟩

set_option maxHeartbeats 4000000 in
theorem g1n_end (vg : Int) (h : vg = 4294967295) : HT Tryz.prog 81 [Value.int IntKind.u32 vg] [] (fun v K => v = Value.tuple #[Value.int IntKind.u32 0, Value.bool false, Value.int IntKind.i64 0] ∧ K = []) := by
 refine hiS Tryz.func81 Tryz.ntmps81 fun g w0 R h0 => go [.v 1 1 (eF vg 0), .v 3 1 (eT vg 4294967295)] ?_
 exact en (.tuple #[uV 0, .bool false, iV 0]) [] ⟨_, _, rfl, ⟨rfl, rfl⟩, h0⟩

set_option maxHeartbeats 4000000 in
theorem g1n_go (vg : Int) (h1 : 1 ≤ vg) (h2 : vg < 4294967295) : HT Tryz.prog 81 [Value.int IntKind.u32 vg] [] (fun v K => v = Value.tuple #[Value.int IntKind.u32 (vg + 1), Value.bool true, Value.int IntKind.i64 0] ∧ K = []) := by
 refine hiS Tryz.func81 Tryz.ntmps81 fun g w0 R h0 => go [.v 1 1 (eF vg 0), .v 3 1 (eF vg 4294967295), .v 5 1 (oUr (vg + 1))] ?_
 exact en (.tuple #[uV (vg + 1), .bool true, iV 0]) [] ⟨_, _, rfl, ⟨rfl, rfl⟩, h0⟩

set_option maxHeartbeats 4000000 in
theorem zcount_ht (b n : Nat) (A : List Sl2) (q : Int) : HT Tryz.prog 74 [Value.pointer (some ⟨b, 0, none⟩), Value.int IntKind.i64 q] [Zs b n A] (fun v K => v = Value.int IntKind.i64 ((((inS q A 0).length : Nat) : Int)) ∧ K = [Zs b n A]) := by
 refine hiS Tryz.func74 Tryz.ntmps74 fun g w0 R h0 => go [] ?_
 obtain ⟨p10, c11, hq12, h13⟩ := zs_open h0
 have hb14 := hq12.1
 have hb15 := hq12.2.1
 have hb16 := hq12.2.2.1
 have hc0_ := cnt_zero q A
 refine lpS (fun mz_ a w => ∃ k : Nat, ∃ lr : Fr, mz_ = n - k ∧ (k ≤ n) ∧ a = mk 33 (([(0, pV b), (1, iV q), (5, iV ((((cnt q A k) : Nat) : Int))), (6, iV (k : Int))] : Fr) ++ lr) ∧ sat g w [Cl b [.slice p10 n c11] 118, Sl 120 2 p10 n c11 (fl eSl A), R]) (n - 0) ⟨0, _, rfl, (by omega), (lvF [.k 0 (pV b), .k 1 (iV q), .o 5 (oJ .i64 0 ((((cnt q A 0) : Nat) : Int))), .o 6 (oJ .i64 0 (0 : Int))]), h13⟩ ?_
 rintro m18 a19 w20 ⟨k, lr17, rfl, hk_, rfl, h21⟩
 refine ga ?_
 have hct_ := cnt_le q A k
 have hil_ := inS_len q A 0
 refine go [] <| cl1 Tryz.call88 (zvalid_cl b p10 n c11 (by omega)) h21 fun w22 h23 => go [rd 3 7 0 0 1 h23, .s 3 9] ?_
 by_cases c24 : (k : Int) < (n : Int)
 ·
  obtain ⟨b25, hp26⟩ := sl_ptr0 (j := 1) h23 rfl (by omega)
  refine go [.v 3 9 (oT ((k : Int) < (n : Int))), rd 5 3 0 0 1 h23, .s 5 5] <| lwP (.pointer (some ⟨b25, k * 2, none⟩)) (law_indexSlP (x := (Operand.tmp 23)) (i := (Operand.tmp 24)) (p := p10) (b := b25) (off := 0) (z := (k : Int)) (len := n) (cap := c11) (by kernel_rfl) Tryz.underlying116 2 (by kernel_rfl) k (by kernel_rfl) hp26 (by kernel_rfl) (by omega) (by omega) (k * 2) (by omega) _) ?_
  obtain ⟨x27, hx28⟩ : ∃ x, A[k]? = some x := ⟨_, List.getElem?_eq_getElem (by rw [hq12.1]; omega)⟩
  have hb29 := hq12.2.2.2 x27 (List.mem_of_getElem? hx28)
  refine go [.r 5 7 b25 (k * 2) [iV x27.1] ⟨gv_cell (j := 1) h23 rfl (gv_sl _ _ _) hp26 (fl_get eSl_ok (j := 0) (v := iV x27.1) hx28 rfl) (k * 2) (by omega), trivial⟩, .s 5 9] ?_
  by_cases c30 : x27.1 = q
  ·
   refine go [.v 5 9 (eT x27.1 q), .v 6 1 (oIr (((((cnt q A k) : Nat) : Int)) + 1)), .v 4 1 (oIr ((k : Int) + 1))] ?_
   refine enL ?_
   have hcg_ := cnt_go (q := q) hx28 (by omega)
   change ∃ n', n' < _ ∧ _
   refine ⟨(n - (k + 1)), by omega, (k + 1), _, rfl, (by omega), (lvF [.k 0 (pV b), .k 1 (iV q), .o 5 (oJ .i64 ((((cnt q A k) : Nat) : Int) + 1) ((((cnt q A (k + 1)) : Nat) : Int))), .o 6 (oJ .i64 ((k : Int) + 1) ((((k + 1) : Nat) : Int)))]), h23⟩
  refine go [.v 5 9 (eF x27.1 q), .v 4 1 (oIr ((k : Int) + 1))] ?_
  refine enL ?_
  have hcg_ := cnt_no (q := q) hx28 (by omega)
  change ∃ n', n' < _ ∧ _
  refine ⟨(n - (k + 1)), by omega, (k + 1), _, rfl, (by omega), (lvF [.k 0 (pV b), .k 1 (iV q), .o 5 (oJ .i64 ((((cnt q A k) : Nat) : Int)) ((((cnt q A (k + 1)) : Nat) : Int))), .o 6 (oJ .i64 ((k : Int) + 1) ((((k + 1) : Nat) : Int)))]), h23⟩
 refine go [.v 3 9 (oF ((k : Int) < (n : Int)))] <| up <| go [] ?_
 have h31 : sat g w22 [Zs b n A, R] := zs_close hq12 h23
 exact en (iV ((((cnt q A k) : Nat) : Int))) [] ⟨_, _, rfl, ⟨by rw [cnt_all q (A := A) (i := k) (by omega)], rfl⟩, h31⟩

set_option maxHeartbeats 4000000 in
theorem zfree_ht (b n : Nat) (A : List Sl2) : HT Tryz.prog 41 [Value.pointer (some ⟨b, 0, none⟩)] [Zs b n A] (fun v K => v = Value.int IntKind.i64 ((((inS 0 A 0).length : Nat) : Int)) ∧ K = [Zs b n A]) := by
 refine hiS Tryz.func41 Tryz.ntmps41 fun g w0 R h0 => go [] <| cl1 Tryz.call74 (zcount_ht b n A 0) h0 fun w10 h11 => go [] ?_
 exact en (iV ((((inS 0 A 0).length : Nat) : Int))) [] ⟨_, _, rfl, ⟨rfl, rfl⟩, h11⟩

set_option maxHeartbeats 4000000 in
theorem ztake_ht (b n : Nat) (A : List Sl2) (j : Nat) (vg : Int) (hf : freeS A = some (j, vg)) : HT Tryz.prog 75 [Value.pointer (some ⟨b, 0, none⟩)] [Zs b n A] (fun v K => v = Value.tuple #[Value.agg #[Value.int IntKind.i64 (((j : Nat) : Int)), Value.int IntKind.u32 vg], Value.int IntKind.i64 0] ∧ K = [Zs b n (A.set j (1, vg))]) := by
 refine hiS Tryz.func75 Tryz.ntmps75 fun g w0 R h0 => go [] <| nP 38 [iV 0, uV 0] h0 (fun r10 w11 h12 => ?_)
 obtain ⟨p14, c15, hq16, h17⟩ := zs_open (tk3 (sf2 (sf1 (sf2 h12))))
 have hb18 := hq16.1
 have hb19 := hq16.2.1
 have hb20 := hq16.2.2.1
 refine go [] <| cl1 Tryz.call88 (zvalid_cl b p14 n c15 (by omega)) h17 fun w21 h22 => go [] ?_
 refine lpS (fun mz_ a w => ∃ k : Nat, ∃ lr : Fr, mz_ = n - k ∧ (k ≤ n) ∧ (cnt 0 A k = 0) ∧ a = mk 45 (([(0, pV b), (2, pV r10), (4, iV (k : Int))] : Fr) ++ lr) ∧ sat g w [Cl b [.slice p14 n c15] 118, Sl 120 2 p14 n c15 (fl eSl A), Cl r10 [iV 0, uV 0] 38, R]) (n - 0) ⟨0, _, rfl, (by omega), cnt_zero 0 A, (lvF [.k 0 (pV b), .k 2 (pV r10), .o 4 (oJ .i64 0 (0 : Int))]), h22⟩ ?_
 rintro m24 a25 w26 ⟨k, lr23, rfl, hk_, hc_, rfl, h27⟩
 refine ga <| go [rd 4 4 0 0 1 h27, .s 4 6] ?_
 by_cases c28 : (k : Int) < (n : Int)
 ·
  obtain ⟨b29, hp30⟩ := sl_ptr0 (j := 1) h27 rfl (by omega)
  refine go [.v 4 6 (oT ((k : Int) < (n : Int))), rd 6 3 0 0 1 h27, .s 6 5] <| lwP (.pointer (some ⟨b29, k * 2, none⟩)) (law_indexSlP (x := (Operand.tmp 21)) (i := (Operand.tmp 22)) (p := p14) (b := b29) (off := 0) (z := (k : Int)) (len := n) (cap := c15) (by kernel_rfl) Tryz.underlying116 2 (by kernel_rfl) k (by kernel_rfl) hp30 (by kernel_rfl) (by omega) (by omega) (k * 2) (by omega) _) ?_
  obtain ⟨x31, hx32⟩ : ∃ x, A[k]? = some x := ⟨_, List.getElem?_eq_getElem (by rw [hq16.1]; omega)⟩
  have hb33 := hq16.2.2.2 x31 (List.mem_of_getElem? hx32)
  refine go [.r 6 7 b29 (k * 2) [iV x31.1] ⟨gv_cell (j := 1) h27 rfl (gv_sl _ _ _) hp30 (fl_get eSl_ok (j := 0) (v := iV x31.1) hx32 rfl) (k * 2) (by omega), trivial⟩, .s 6 8] ?_
  by_cases c34 : x31.1 = 0
  ·
   refine go [.v 6 8 (eT x31.1 0), rd 7 3 0 0 1 h27, .s 7 5] <| lwP (.pointer (some ⟨b29, k * 2, none⟩)) (law_indexSlP (x := (Operand.tmp 30)) (i := (Operand.tmp 31)) (p := p14) (b := b29) (off := 0) (z := (k : Int)) (len := n) (cap := c15) (by kernel_rfl) Tryz.underlying116 2 (by kernel_rfl) k (by kernel_rfl) hp30 (by kernel_rfl) (by omega) (by omega) (k * 2) (by omega) _) ?_
   have h35 := tk4 (sf3 (sf2 (sf3 (sf3 h27))))
   refine go [] ?_
   refine actG ?_
   refine an_storeSl (b := b29) [(k * 2, iV 1)] (cs' := (fl eSl (A.set k (1, x31.2)))) (by kernel_rfl) (by kernel_rfl) hp30 (allq ⟨⟨by omega, rfl⟩, trivial⟩) (by omega) (fl_upd eSl_ok (i := k) (x := x31) (y := (1, x31.2)) hx32 [(0, iV 1)] rfl rfl rfl) h35 ?_
   intro w36 h37
   refine nxB <| go [rd 8 4 1 0 1 h37, .s 8 6] <| lwP (.pointer (some ⟨b29, k * 2, none⟩)) (law_indexSlP (x := (Operand.tmp 38)) (i := (Operand.tmp 39)) (p := p14) (b := b29) (off := 0) (z := (k : Int)) (len := n) (cap := c15) (by kernel_rfl) Tryz.underlying116 2 (by kernel_rfl) k (by kernel_rfl) hp30 (by kernel_rfl) (by omega) (by omega) (k * 2) (by omega) _) ?_
   have hl38 := fl_n eSl_ok (by decide) h37
   have h39 := tk4 (sf3 (sf2 (sf2 (sf3 h37))))
   refine go [.r 8 8 b29 (k * 2 + 1) [uV ((1, x31.2).2)] ⟨gv_cell (j := 0) h37 rfl (gv_sl _ _ _) hp30 (fl_get eSl_ok (j := 1) (v := uV ((1, x31.2).2)) (set_at hx32) rfl) (k * 2 + 1) (by omega), trivial⟩] <| sP [(0, iV (k : Int)), (1, uV ((1, x31.2).2))] [iV (k : Int), uV ((1, x31.2).2)] h39 fun w40 h41 => go [] <| up <| go [] ?_
   obtain ⟨hj_, hg_⟩ := cnt_free hf hc_ hx32 (by omega)
   have h43 : sat g w40 [Zs b n (A.set k (1, x31.2)), Cl r10 [iV (k : Int), uV ((1, x31.2).2)] 38, R] := zs_close (zs_set hq16 (by omega)) (tk4 (sf3 (sf2 (sf1 (sf3 h41)))))
   exact en (.tuple #[.agg #[iV (k : Int), uV ((1, x31.2).2)], iV 0]) [rd 0 0 0 0 2 h41] ⟨_, [Zs b n (A.set k (1, x31.2))], rfl, ⟨by rw [hj_, hg_], by rw [hj_, hg_]⟩, (tk2 (sf1 (sf2 h43)))⟩
  refine go [.v 6 8 (eF x31.1 0), .v 5 1 (oIr ((k : Int) + 1))] ?_
  refine enL ?_
  change ∃ n', n' < _ ∧ _
  refine ⟨(n - (k + 1)), by omega, (k + 1), _, rfl, (by omega), ((cnt_no (q := 0) hx32 (by omega)).trans hc_), (lvF [.k 0 (pV b), .k 2 (pV r10), .o 4 (oJ .i64 ((k : Int) + 1) ((((k + 1) : Nat) : Int)))]), h27⟩
 refine go [.v 4 6 (oF ((k : Int) < (n : Int)))] <| up ?_
 have h45 := tk4 (sf3 (sf2 (sf2 (sf3 h27))))
 refine go [] <| sP [(0, iV 0), (1, uV 0)] [iV 0, uV 0] h45 fun w46 h47 => go [] ?_
 exact (cnt_end hf hc_ (by omega)).elim

set_option maxHeartbeats 4000000 in
theorem zcheck_ht (b n : Nat) (A : List Sl2) (k : Nat) (x : Sl2) (hx : A[k]? = some x) (vi vg : Int) (h : vi = (k : Int) ∧ vg = x.2 ∧ x.1 = 1) : HT Tryz.prog 80 [Value.pointer (some ⟨b, 0, none⟩), Value.agg #[Value.int IntKind.i64 vi, Value.int IntKind.u32 vg]] [Zs b n A] (fun v K => v = Value.int IntKind.i64 0 ∧ K = [Zs b n A]) := by
 refine hiS Tryz.func80 Tryz.ntmps80 fun g w0 R h0 => go [] <| nP 38 [iV vi, uV vg] h0 (fun r10 w11 h12 => ?_)
 obtain ⟨p14, c15, hq16, h17⟩ := zs_open (tk3 (sf2 (sf1 (sf2 h12))))
 have hb18 := hq16.1
 have hb19 := hq16.2.1
 have hb20 := hq16.2.2.1
 have hkl_ := (List.getElem?_eq_some_iff.1 hx).1
 have hb21 := hq16.2.2.2 x (List.mem_of_getElem? hx)
 refine go [] <| cl1 Tryz.call88 (zvalid_cl b p14 n c15 (by omega)) h17 fun w22 h23 => go [] <| dw (fls [0, 1, 2, 3, 4, 5, 6, 7, 8, 9, 10, 11, 12] Tr.nil) h23 fun w24 h25 => go [rd 3 1 2 0 1 h25, .v 3 2 (oF (vi < 0)), rd 3 5 2 0 1 h25, rd 3 9 0 0 1 h25, .v 3 11 (oF (vi ≥ (n : Int)))] <| dw (fls [0, 1, 2, 3, 4, 5, 6, 7, 8, 9, 10, 11, 12, 13, 14, 15, 16, 17, 18, 19, 20, 21, 22, 23] Tr.nil) h25 fun w26 h27 => ?_
 obtain ⟨b28, hp29⟩ := sl_ptr0 (j := 1) h27 rfl (by omega)
 refine go [rd 5 3 0 0 1 h27, rd 5 5 2 0 1 h27, .s 5 6] <| lw (.pointer (some ⟨b28, k * 2, none⟩)) (fun _ => law_indexSlP (x := (Operand.tmp 24)) (i := (Operand.tmp 26)) (p := p14) (b := b28) (off := 0) (z := vi) (len := n) (cap := c15) (by kernel_rfl) Tryz.underlying116 2 (by kernel_rfl) k (by kernel_rfl) hp29 (by kernel_rfl) (by omega) (by omega) (k * 2) (by omega) _) <| go [.r 5 8 b28 (k * 2) [iV x.1] ⟨gv_cell (j := 1) h27 rfl (gv_sl _ _ _) hp29 (fl_get eSl_ok (j := 0) (v := iV x.1) hx rfl) (k * 2) (by omega), trivial⟩, .v 5 9 (nF x.1 1), rd 5 14 0 0 1 h27, rd 5 16 2 0 1 h27, .s 5 17] <| lw (.pointer (some ⟨b28, k * 2, none⟩)) (fun _ => law_indexSlP (x := (Operand.tmp 35)) (i := (Operand.tmp 37)) (p := p14) (b := b28) (off := 0) (z := vi) (len := n) (cap := c15) (by kernel_rfl) Tryz.underlying116 2 (by kernel_rfl) k (by kernel_rfl) hp29 (by kernel_rfl) (by omega) (by omega) (k * 2) (by omega) _) <| go [.r 5 19 b28 (k * 2 + 1) [uV x.2] ⟨gv_cell (j := 1) h27 rfl (gv_sl _ _ _) hp29 (fl_get eSl_ok (j := 1) (v := uV x.2) hx rfl) (k * 2 + 1) (by omega), trivial⟩, rd 5 21 2 1 1 h27, .v 5 22 (nF x.2 vg)] ?_
 have h30 : sat g w26 [Zs b n A, Cl r10 [iV vi, uV vg] 38, R] := zs_close hq16 h27
 exact en (iV 0) [] ⟨_, _, rfl, ⟨rfl, rfl⟩, (tk2 (sf1 (sf2 h30)))⟩

set_option maxHeartbeats 4000000 in
theorem zgive_ht (b n : Nat) (A : List Sl2) (k : Nat) (x : Sl2) (hx : A[k]? = some x) (vi vg : Int) (h : vi = (k : Int) ∧ vg = x.2 ∧ x.1 = 1) : HT Tryz.prog 47 [Value.pointer (some ⟨b, 0, none⟩), Value.agg #[Value.int IntKind.i64 vi, Value.int IntKind.u32 vg]] [Zs b n A] (fun v K => v = Value.int IntKind.i64 0 ∧ K = [Zs b n (giveA A k vg)]) := by
 refine hiS Tryz.func47 Tryz.ntmps47 fun g w0 R h0 => go [] <| nP 38 [iV vi, uV vg] h0 (fun r10 w11 h12 => ?_)
 have h13 := tk3 (sf2 (sf1 (sf2 h12)))
 refine go [rd 1 1 0 0 2 h12] <| cl1 Tryz.call80 (zcheck_ht b n A k x hx vi vg (by omega)) h13 fun w14 h15 => ?_
 obtain ⟨p16, c17, hq18, h19⟩ := zs_open h15
 have hb20 := hq18.1
 have hb21 := hq18.2.1
 have hb22 := hq18.2.2.1
 have hkl_ := (List.getElem?_eq_some_iff.1 hx).1
 have hb23 := hq18.2.2.2 x (List.mem_of_getElem? hx)
 refine go [rd 4 1 1 1 1 h15] ?_
 by_cases c24 : vg = 4294967295
 ·
  refine cl0 Tryz.call81 (g1n_end vg (by omega)) h19 fun w25 h26 => go [] <| dw (fls [0, 1, 2, 3, 4, 5, 6, 7] (Tr.an 8 Tr.nil)) h26 fun w27 h28 => ?_
  obtain ⟨b29, hp30⟩ := sl_ptr0 (j := 1) h28 rfl (by omega)
  refine go [rd 5 3 0 0 1 h28, rd 5 5 2 0 1 h28, .s 5 6] <| lw (.pointer (some ⟨b29, k * 2, none⟩)) (fun _ => law_indexSlP (x := (Operand.tmp 25)) (i := (Operand.tmp 27)) (p := p16) (b := b29) (off := 0) (z := vi) (len := n) (cap := c17) (by kernel_rfl) Tryz.underlying116 2 (by kernel_rfl) k (by kernel_rfl) hp30 (by kernel_rfl) (by omega) (by omega) (k * 2) (by omega) _) ?_
  have h31 := tk4 (sf3 (sf2 (sf3 (sf3 h28))))
  refine go [] ?_
  refine actG ?_
  refine an_storeSl (b := b29) [(k * 2, iV 2)] (cs' := (fl eSl (A.set k (2, x.2)))) (by kernel_rfl) (by kernel_rfl) hp30 (allq ⟨⟨by omega, rfl⟩, trivial⟩) (by omega) (fl_upd eSl_ok (i := k) (x := x) (y := (2, x.2)) hx [(0, iV 2)] rfl rfl rfl) h31 ?_
  intro w32 h33
  refine ⟨kd [], nxN ?_⟩
  refine go [] ?_
  have h35 : sat g w32 [Zs b n (A.set k (2, x.2)), Cl r10 [iV vi, uV vg] 38, R] := zs_close (zs_set hq18 (by simp only; omega)) (tk4 (sf3 (sf2 (sf3 (sf3 h33)))))
  have h36 : sat g w32 [Zs b n (giveA A k vg), Cl r10 [iV vi, uV vg] 38, R] := (show (A.set k (2, x.2)) = giveA A k vg from (by unfold giveA; rw [if_neg (by omega), h.2.1])) ▸ h35
  exact en (iV 0) [] ⟨_, _, rfl, ⟨rfl, rfl⟩, (tk2 (sf1 (sf2 h36)))⟩
 refine cl0 Tryz.call81 (g1n_go vg (by omega) (by omega)) h19 fun w38 h39 => go [] <| dw (fls [0, 1, 2, 3, 4, 5, 6, 7] (Tr.an 8 Tr.nil)) h39 fun w40 h41 => ?_
 obtain ⟨b42, hp43⟩ := sl_ptr0 (j := 1) h41 rfl (by omega)
 refine go [rd 5 3 0 0 1 h41, rd 5 5 2 0 1 h41, .s 5 6] <| lw (.pointer (some ⟨b42, k * 2, none⟩)) (fun _ => law_indexSlP (x := (Operand.tmp 25)) (i := (Operand.tmp 27)) (p := p16) (b := b42) (off := 0) (z := vi) (len := n) (cap := c17) (by kernel_rfl) Tryz.underlying116 2 (by kernel_rfl) k (by kernel_rfl) hp43 (by kernel_rfl) (by omega) (by omega) (k * 2) (by omega) _) ?_
 have h44 := tk4 (sf3 (sf2 (sf3 (sf3 h41))))
 refine go [] ?_
 refine actG ?_
 refine an_storeSl (b := b42) [(k * 2, iV 2)] (cs' := (fl eSl (A.set k (2, x.2)))) (by kernel_rfl) (by kernel_rfl) hp43 (allq ⟨⟨by omega, rfl⟩, trivial⟩) (by omega) (fl_upd eSl_ok (i := k) (x := x) (y := (2, x.2)) hx [(0, iV 2)] rfl rfl rfl) h44 ?_
 intro w45 h46
 refine ⟨kd [], nxN ?_⟩
 refine go [] <| dw (fls [0, 1, 2, 3, 4, 5, 6, 7, 8] (Tr.an 9 Tr.nil)) h46 fun w47 h48 => go [rd 7 3 1 0 1 h48, rd 7 5 2 0 1 h48, .s 7 8] <| lw (.pointer (some ⟨b42, k * 2, none⟩)) (fun _ => law_indexSlP (x := (Operand.tmp 34)) (i := (Operand.tmp 36)) (p := p16) (b := b42) (off := 0) (z := vi) (len := n) (cap := c17) (by kernel_rfl) Tryz.underlying116 2 (by kernel_rfl) k (by kernel_rfl) hp43 (by kernel_rfl) (by omega) (by omega) (k * 2) (by omega) _) ?_
 refine actG ?_
 have hl51 := fl_n eSl_ok (by decide) h48
 refine an_storeSl (b := b42) [(k * 2, iV 0), (k * 2 + 1, uV (vg + 1))] (cs' := (fl eSl ((A.set k (2, x.2)).set k (0, vg + 1)))) (by kernel_rfl) (by kernel_rfl) hp43 (allq ⟨⟨by omega, rfl⟩, ⟨by omega, rfl⟩, trivial⟩) (by omega) (fl_upd eSl_ok (i := k) (x := (2, x.2)) (y := (0, vg + 1)) (set_at hx) [(0, iV 0), (1, uV (vg + 1))] rfl rfl rfl) h48 ?_
 intro w49 h50
 refine ⟨kd [], nxN ?_⟩
 refine go [] ?_
 have h53 : sat g w49 [Zs b n ((A.set k (2, x.2)).set k (0, vg + 1)), Cl r10 [iV vi, uV vg] 38, R] := zs_close (zs_set (zs_set hq18 (by simp only; omega)) (by simp only; omega)) (tk4 (sf3 (sf2 (sf3 (sf3 h50)))))
 have h54 : sat g w49 [Zs b n (giveA A k vg), Cl r10 [iV vi, uV vg] 38, R] := (show ((A.set k (2, x.2)).set k (0, vg + 1)) = giveA A k vg from (by unfold giveA; rw [if_pos (by omega), List.set_set])) ▸ h53
 exact en (iV 0) [] ⟨_, _, rfl, ⟨rfl, rfl⟩, (tk2 (sf1 (sf2 h54)))⟩

set_option maxHeartbeats 4000000 in
theorem zcopy_ht (b n : Nat) (A : List Sl2) : HT Tryz.prog 55 [Value.pointer (some ⟨b, 0, none⟩)] [Zs b n A] (fun v K => ∃ b2 : Nat, v = Value.pointer (some ⟨b2, 0, none⟩) ∧ K = [Zs b n A, Zs b2 n A]) := by
 refine hiS Tryz.func55 Tryz.ntmps55 fun g w0 R h0 => ?_
 obtain ⟨p10, c11, hq12, h13⟩ := zs_open h0
 have hb14 := hq12.1
 have hb15 := hq12.2.1
 have hb16 := hq12.2.2.1
 refine go [] <| cl1 Tryz.call88 (zvalid_cl b p10 n c11 (by omega)) h13 fun w17 h18 => go [] <| nG (fun q_ => .slice (some ⟨q_, 0, none⟩) 0 0) 120 [] h18 (fun r19 w20 h21 => ⟨kd [], ?_⟩)
 have h22 : sat g w20 [Sl 120 2 (some ⟨r19, 0, none⟩) 0 0 (fl eSl []), Cl b [.slice p10 n c11] 118, Sl 120 2 p10 n c11 (fl eSl A), R] := sl_of_cl h21 rfl (by omega)
 refine go [rd 3 4 1 0 1 h21] ?_
 refine actG ?_
 refine an_append_gv (d := 11) (sz := 2) (s := (Operand.tmp 6)) (x := (Operand.tmp 10)) (z := .agg #[iV 0, uV 0]) (p := (some ⟨r19, 0, none⟩)) (p2 := p10) (m := 0) (c := 0) (k := n) (c2 := c11) (by_ := 16) (by kernel_rfl) (by kernel_rfl) rfl Tryz.underlying116 (by kernel_rfl) rfl (by decide) (by kernel_rfl) (by kernel_rfl) h22 2 rfl (fl eSl A) (gv_sl _ _ _) (by rw [fl_len eSl_ok, hq12.1]) (fl_one eSl_ok _) (by omega) (by omega) n (by omega) ?_
 intro p23 cap24 w25 h26
 have h27 : sat g w25 [Sl 120 2 p23 n cap24 (fl eSl A), Cl b [.slice p10 n c11] 118, Sl 120 2 p10 n c11 (fl eSl A), R] := sat_imp h26 (fun _ hh => by exact hh)
 obtain ⟨hn28, hn29⟩ := sl_le h27
 refine nxA <| go [] <| nP 118 [.slice p23 n cap24] h27 (fun r30 w31 h32 => ?_)
 refine go [] ?_
 have h34 : sat g w31 [Zs b n A, Cl r30 [.slice p23 n cap24] 118, Sl 120 2 p23 n cap24 (fl eSl A), R] := zs_close hq12 (tk5 (sf4 (sf4 (sf2 (sf2 (sf4 h32))))))
 have h37 : sat g w31 [Zs r30 n A, Zs b n A, R] := zs_close hq12 (tk4 (sf3 (sf2 (sf2 (sf3 (tk4 (sf3 (sf2 (sf2 (sf3 h34))))))))))
 exact en (pV r30) [] ⟨_, _, rfl, ⟨r30, rfl, rfl⟩, (tk3 (sf2 (sf1 (sf2 h37))))⟩

set_option maxHeartbeats 4000000 in
theorem znew_no (z vg : Int) (hb : z < 1 ∨ 256 < z ∨ vg < 1) (h0 : 0 ≤ vg) : HT Tryz.prog 28 [Value.int IntKind.i64 z, Value.int IntKind.u32 vg] [] (fun v K => v = Value.tuple #[Value.pointer none, Value.int IntKind.i64 2] ∧ K = []) := by
 refine hiS Tryz.func28 Tryz.ntmps28 fun g w0 R h0 => go [.s 1 1] ?_
 by_cases c10 : z < 1
 ·
  refine go [.v 1 1 (oT (z < 1))] ?_
  exact en (.tuple #[.pointer none, iV 2]) [] ⟨_, _, rfl, ⟨rfl, rfl⟩, h0⟩
 refine go [.v 1 1 (oF (z < 1)), .s 1 4] ?_
 by_cases c11 : z > 256
 ·
  refine go [.v 1 4 (oT (z > 256))] ?_
  exact en (.tuple #[.pointer none, iV 2]) [] ⟨_, _, rfl, ⟨rfl, rfl⟩, h0⟩
 refine go [.v 1 4 (oF (z > 256))] <| cl0 Tryz.call68 (g1c_no vg (by omega)) h0 fun w12 h13 => go [] ?_
 exact en (.tuple #[.pointer none, iV 2]) [] ⟨_, _, rfl, ⟨rfl, rfl⟩, h13⟩

set_option maxHeartbeats 4000000 in
theorem znew_ok (n : Nat) (z vg : Int) (hz : z = (n : Int)) (h1 : 1 ≤ n) (h2 : n ≤ 256) (hg : 1 ≤ vg ∧ vg ≤ 4294967295) : HT Tryz.prog 28 [Value.int IntKind.i64 z, Value.int IntKind.u32 vg] [] (fun v K => ∃ b : Nat, v = Value.tuple #[Value.pointer (some ⟨b, 0, none⟩), Value.int IntKind.i64 0] ∧ K = [Zs b n (List.replicate n (0, vg))]) := by
 refine hiS Tryz.func28 Tryz.ntmps28 fun g w0 R h0 => go [.v 1 1 (oF (z < 1)), .v 1 4 (oF (z > 256))] <| cl0 Tryz.call68 (g1c_ok vg (by omega)) h0 fun w10 h11 => go [] <| nP 118 [.slice none 0 0] h11 (fun r12 w13 h14 => ?_)
 refine go [] ?_
 have h15 : sat g w13 [Sl 120 2 none 0 0 (fl eSl []), Cl r12 [.slice none 0 0] 118, R] := sl_nil 120 2 h14
 refine lpS (fun mz_ a w => ∃ k : Nat, ∃ p2 : Option Addr, ∃ c2 : Nat, ∃ lr : Fr, mz_ = n - k ∧ (k ≤ n) ∧ a = mk 38 (([(0, iV z), (1, uV vg), (6, pV r12), (7, iV (k : Int))] : Fr) ++ lr) ∧ sat g w [Cl r12 [.slice p2 k c2] 118, Sl 120 2 p2 k c2 (fl eSl (List.replicate k (0, vg))), R]) (n - 0) ⟨0, none, 0, _, rfl, (by omega), (lvF [.k 0 (iV z), .k 1 (uV vg), .k 6 (pV r12), .o 7 (oJ .i64 0 (0 : Int))]), (tk3 (sf2 (sf1 (sf2 h15))))⟩ ?_
 rintro m18 a19 w20 ⟨k, p2, c2, lr17, rfl, hk_, rfl, h21⟩
 refine ga <| go [.s 5 2] ?_
 by_cases c22 : (k : Int) < z
 ·
  refine go [.v 5 2 (oT ((k : Int) < z)), rd 7 4 0 0 1 h21] <| nG (fun q_ => .slice (some ⟨q_, 0, none⟩) 1 1) 120 [iV 0, uV vg] h21 (fun r23 w24 h25 => ⟨kd [], ?_⟩)
  have h26 := tk4 (sf3 (sf2 (sf2 (sf3 h25))))
  refine actG ?_
  refine an_append (d := 34) (sz := 2) (s := (Operand.tmp 30)) (x := (Operand.tmp 33)) (z := .agg #[iV 0, uV 0]) (p := p2) (m := k) (c := c2) (k := 1) (c2 := 1) (a := ⟨r23, 0, none⟩) (by_ := 16) (by kernel_rfl) (by kernel_rfl) rfl Tryz.underlying116 (by kernel_rfl) rfl (by decide) (by kernel_rfl) (by kernel_rfl) h26 (fl eSl [(0, vg)]) rfl (fun j u hj => by rw [add_off]; exact sat_cell h26 1 rfl (by rw [Nat.zero_add]; exact hj)) (fl_one eSl_ok _) (by omega) (by omega) (k + 1) (by omega) ?_
  intro p27 cap28 w29 h30
  have h31 : sat g w29 [Sl 120 2 p27 (k + 1) cap28 (fl eSl ((List.replicate k (0, vg)) ++ [(0, vg)])), Cl r23 [iV 0, uV vg] 120, Cl r12 [.slice p2 k c2] 118, R] := sat_imp h30 (fun _ hh => by rw [fl_app]; exact hh)
  obtain ⟨hn32, hn33⟩ := sl_le h31
  refine nxA ?_
  have h34 := tk4 (sf3 (sf2 (sf2 (sf3 h31))))
  refine go [] <| sP [(0, .slice p27 (k + 1) cap28)] [.slice p27 (k + 1) cap28] h34 fun w35 h36 => go [.v 6 1 (oIr ((k : Int) + 1))] ?_
  refine enL ?_
  have h38 : sat g w35 [Sl 120 2 p27 (k + 1) cap28 (fl eSl (List.replicate (k + 1) (0, vg))), Cl r12 [.slice p27 (k + 1) cap28] 118, Cl r23 [iV 0, uV vg] 120, R] := sat_imp (tk4 (sf3 (sf2 (sf3 (sf3 h36))))) (fun _ hh_ => by rw [show (((List.replicate k (0, vg)) ++ [(0, vg)]) : List Sl2) = (List.replicate (k + 1) (0, vg)) from (List.replicate_succ'.symm)] at hh_; exact hh_)
  have h40 := tk3 (tk4 (sf3 (sf2 (sf3 (sf2 h38)))))
  change ∃ n', n' < _ ∧ _
  refine ⟨(n - (k + 1)), by omega, (k + 1), p27, cap28, _, rfl, (by omega), (lvF [.k 0 (iV z), .k 1 (uV vg), .k 6 (pV r12), .o 7 (oJ .i64 ((k : Int) + 1) ((((k + 1) : Nat) : Int)))]), h40⟩
 refine go [.v 5 2 (oF ((k : Int) < z))] <| up <| go [] ?_
 have h42 : sat g w20 [Sl 120 2 p2 k c2 (fl eSl (List.replicate n (0, vg))), Cl r12 [.slice p2 k c2] 118, R] := sat_imp (tk3 (sf2 (sf1 (sf2 h21)))) (fun _ hh_ => by rw [show ((List.replicate k (0, vg)) : List Sl2) = (List.replicate n (0, vg)) from (by rw [show k = n from by omega])] at hh_; exact hh_)
 have h43 := tk3 (sf2 (sf1 (sf2 h42)))
 have h44 : sat g w20 [Cl r12 [.slice p2 n c2] 118, Sl 120 2 p2 n c2 (fl eSl (List.replicate n (0, vg))), R] := (show k = n from by omega) ▸ h43
 have h45 : sat g w20 [Zs r12 n (List.replicate n (0, vg)), R] := zs_close ⟨List.length_replicate, by omega, by omega, fun s hs => by rw [List.eq_of_mem_replicate hs]; simp only; omega⟩ h44
 exact en (.tuple #[pV r12, iV 0]) [] ⟨_, _, rfl, ⟨r12, rfl, rfl⟩, h45⟩

end Go.Proofs.YtjjpmehiolejgaaGreat

/- Walks, printed by my generator z4.py. -/
namespace Go.Proofs.YtjjpmehiolejgaaGreat
set_option maxHeartbeats 4000000 in
theorem ztime_t (v : Int) (h : 0 ≤ v ∧ v ≤ 1099511627776) : HT Tryz.prog 103 [Value.int IntKind.i64 v] [] (fun r K => r = Value.bool true ∧ K = []) := by
 refine hiS Tryz.func103 Tryz.ntmps103 fun g w0 R h0 => go [.v 1 1 (oT (v ≥ 0)), .v 1 4 (oT (v ≤ 1099511627776))] ?_
 exact en (.bool true) [] ⟨_, _, rfl, ⟨rfl, rfl⟩, h0⟩

set_option maxHeartbeats 4000000 in
theorem ztime_f (v : Int) (h : v < 0 ∨ 1099511627776 < v) : HT Tryz.prog 103 [Value.int IntKind.i64 v] [] (fun r K => r = Value.bool false ∧ K = []) := by
 refine hiS Tryz.func103 Tryz.ntmps103 fun g w0 R h0 => go [.s 1 1] ?_
 by_cases c10 : v ≥ 0
 ·
  refine go [.v 1 1 (oT (v ≥ 0)), .v 1 4 (oF (v ≤ 1099511627776))] ?_
  exact en (.bool false) [] ⟨_, _, rfl, ⟨rfl, rfl⟩, h0⟩
 refine go [.v 1 1 (oF (v ≥ 0))] ?_
 exact en (.bool false) [] ⟨_, _, rfl, ⟨rfl, rfl⟩, h0⟩

set_option maxHeartbeats 4000000 in
theorem zwhy_t (v : Int) (h : 1 ≤ v ∧ v ≤ 3) : HT Tryz.prog 102 [Value.int IntKind.i64 v] [] (fun r K => r = Value.bool true ∧ K = []) := by
 refine hiS Tryz.func102 Tryz.ntmps102 fun g w0 R h0 => go [.v 1 1 (oT (v ≥ 1)), .v 1 4 (oT (v ≤ 3))] ?_
 exact en (.bool true) [] ⟨_, _, rfl, ⟨rfl, rfl⟩, h0⟩

set_option maxHeartbeats 4000000 in
theorem zwhy_f (v : Int) (h : v < 1 ∨ 3 < v) : HT Tryz.prog 102 [Value.int IntKind.i64 v] [] (fun r K => r = Value.bool false ∧ K = []) := by
 refine hiS Tryz.func102 Tryz.ntmps102 fun g w0 R h0 => go [.s 1 1] ?_
 by_cases c10 : v ≥ 1
 ·
  refine go [.v 1 1 (oT (v ≥ 1)), .v 1 4 (oF (v ≤ 3))] ?_
  exact en (.bool false) [] ⟨_, _, rfl, ⟨rfl, rfl⟩, h0⟩
 refine go [.v 1 1 (oF (v ≥ 1))] ?_
 exact en (.bool false) [] ⟨_, _, rfl, ⟨rfl, rfl⟩, h0⟩

set_option maxHeartbeats 4000000 in
theorem zout_ok (x y z : Int) (hz0 : 0 ≤ z) (h : 1 ≤ x ∧ x ≤ 3 ∧ 0 ≤ y ∧ y ≤ 63 ∧ 1 ≤ z) : HT Tryz.prog 101 [Value.agg #[Value.int IntKind.i64 x, Value.int IntKind.i64 y, Value.int IntKind.u32 z]] [] (fun v K => v = Value.int IntKind.i64 0 ∧ K = []) := by
 refine hiS Tryz.func101 Tryz.ntmps101 fun g w0 R h0 => go [] <| nP 36 [iV x, iV y, uV z] h0 (fun r10 w11 h12 => ?_)
 refine go [rd 1 1 0 0 1 h12, .v 1 2 (oF (x < 1)), rd 1 5 0 0 1 h12, .v 1 6 (oF (x > 3)), rd 1 10 0 1 1 h12, .v 1 11 (oF (y < 0)), rd 1 15 0 1 1 h12, .v 1 16 (oF (y ≥ 64)), rd 1 20 0 2 1 h12, .v 1 21 (eF z 0)] ?_
 exact en (iV 0) [] ⟨_, _, rfl, ⟨rfl, rfl⟩, (tk1 (sf1 h12))⟩

set_option maxHeartbeats 4000000 in
theorem zout_no (x y z : Int) (hz0 : 0 ≤ z) (h : ¬ (1 ≤ x ∧ x ≤ 3 ∧ 0 ≤ y ∧ y ≤ 63 ∧ 1 ≤ z)) : HT Tryz.prog 101 [Value.agg #[Value.int IntKind.i64 x, Value.int IntKind.i64 y, Value.int IntKind.u32 z]] [] (fun v K => v = Value.int IntKind.i64 2 ∧ K = []) := by
 refine hiS Tryz.func101 Tryz.ntmps101 fun g w0 R h0 => go [] <| nP 36 [iV x, iV y, uV z] h0 (fun r10 w11 h12 => ?_)
 refine go [rd 1 1 0 0 1 h12, .s 1 2] ?_
 by_cases c13 : x < 1
 ·
  refine go [.v 1 2 (oT (x < 1))] ?_
  exact en (iV 2) [] ⟨_, _, rfl, ⟨rfl, rfl⟩, (tk1 (sf1 h12))⟩
 refine go [.v 1 2 (oF (x < 1)), rd 1 5 0 0 1 h12, .s 1 6] ?_
 by_cases c15 : x > 3
 ·
  refine go [.v 1 6 (oT (x > 3))] ?_
  exact en (iV 2) [] ⟨_, _, rfl, ⟨rfl, rfl⟩, (tk1 (sf1 h12))⟩
 refine go [.v 1 6 (oF (x > 3)), rd 1 10 0 1 1 h12, .s 1 11] ?_
 by_cases c17 : y < 0
 ·
  refine go [.v 1 11 (oT (y < 0))] ?_
  exact en (iV 2) [] ⟨_, _, rfl, ⟨rfl, rfl⟩, (tk1 (sf1 h12))⟩
 refine go [.v 1 11 (oF (y < 0)), rd 1 15 0 1 1 h12, .s 1 16] ?_
 by_cases c19 : y ≥ 64
 ·
  refine go [.v 1 16 (oT (y ≥ 64))] ?_
  exact en (iV 2) [] ⟨_, _, rfl, ⟨rfl, rfl⟩, (tk1 (sf1 h12))⟩
 refine go [.v 1 16 (oF (y ≥ 64)), rd 1 20 0 2 1 h12, .v 1 21 (eT z 0)] ?_
 exact en (iV 2) [] ⟨_, _, rfl, ⟨rfl, rfl⟩, (tk1 (sf1 h12))⟩

set_option maxHeartbeats 4000000 in
theorem zdsc_ok (x y z : Int) (hz0 : 0 ≤ z) (h : 1 ≤ x ∧ x ≤ 3 ∧ 0 ≤ y ∧ y ≤ 255 ∧ 1 ≤ z) : HT Tryz.prog 77 [Value.agg #[Value.int IntKind.i64 x, Value.int IntKind.i64 y, Value.int IntKind.u32 z]] [] (fun v K => v = Value.int IntKind.i64 0 ∧ K = []) := by
 refine hiS Tryz.func77 Tryz.ntmps77 fun g w0 R h0 => go [] <| nP 25 [iV x, iV y, uV z] h0 (fun r10 w11 h12 => ?_)
 refine go [rd 1 1 0 0 1 h12, .v 1 2 (oF (x < 1)), rd 1 5 0 0 1 h12, .v 1 6 (oF (x > 3)), rd 1 10 0 1 1 h12, .v 1 11 (oF (y < 0)), rd 1 15 0 1 1 h12, .v 1 16 (oF (y ≥ 256)), rd 1 20 0 2 1 h12, .v 1 21 (eF z 0)] ?_
 exact en (iV 0) [] ⟨_, _, rfl, ⟨rfl, rfl⟩, (tk1 (sf1 h12))⟩

set_option maxHeartbeats 4000000 in
theorem zdsc_no (x y z : Int) (hz0 : 0 ≤ z) (h : ¬ (1 ≤ x ∧ x ≤ 3 ∧ 0 ≤ y ∧ y ≤ 255 ∧ 1 ≤ z)) : HT Tryz.prog 77 [Value.agg #[Value.int IntKind.i64 x, Value.int IntKind.i64 y, Value.int IntKind.u32 z]] [] (fun v K => v = Value.int IntKind.i64 2 ∧ K = []) := by
 refine hiS Tryz.func77 Tryz.ntmps77 fun g w0 R h0 => go [] <| nP 25 [iV x, iV y, uV z] h0 (fun r10 w11 h12 => ?_)
 refine go [rd 1 1 0 0 1 h12, .s 1 2] ?_
 by_cases c13 : x < 1
 ·
  refine go [.v 1 2 (oT (x < 1))] ?_
  exact en (iV 2) [] ⟨_, _, rfl, ⟨rfl, rfl⟩, (tk1 (sf1 h12))⟩
 refine go [.v 1 2 (oF (x < 1)), rd 1 5 0 0 1 h12, .s 1 6] ?_
 by_cases c15 : x > 3
 ·
  refine go [.v 1 6 (oT (x > 3))] ?_
  exact en (iV 2) [] ⟨_, _, rfl, ⟨rfl, rfl⟩, (tk1 (sf1 h12))⟩
 refine go [.v 1 6 (oF (x > 3)), rd 1 10 0 1 1 h12, .s 1 11] ?_
 by_cases c17 : y < 0
 ·
  refine go [.v 1 11 (oT (y < 0))] ?_
  exact en (iV 2) [] ⟨_, _, rfl, ⟨rfl, rfl⟩, (tk1 (sf1 h12))⟩
 refine go [.v 1 11 (oF (y < 0)), rd 1 15 0 1 1 h12, .s 1 16] ?_
 by_cases c19 : y ≥ 256
 ·
  refine go [.v 1 16 (oT (y ≥ 256))] ?_
  exact en (iV 2) [] ⟨_, _, rfl, ⟨rfl, rfl⟩, (tk1 (sf1 h12))⟩
 refine go [.v 1 16 (oF (y ≥ 256)), rd 1 20 0 2 1 h12, .v 1 21 (eT z 0)] ?_
 exact en (iV 2) [] ⟨_, _, rfl, ⟨rfl, rfl⟩, (tk1 (sf1 h12))⟩

set_option maxHeartbeats 4000000 in
theorem zposs_ht (x y z st why tr nx : Int) (L : List UInt8) (hz0 : 0 ≤ z) (hz1 : z ≤ 4294967295) : HT Tryz.prog 85 [Value.agg #[Value.int IntKind.i64 x, Value.int IntKind.i64 y, Value.int IntKind.u32 z, Value.int IntKind.i64 st, Value.int IntKind.i64 why, Value.int IntKind.i64 tr, Value.int IntKind.i64 nx, Value.string (St L)]] [] (fun v K => v = Value.bool (decide (posP x y z st why tr nx)) ∧ K = []) := by
 refine hiS Tryz.func85 Tryz.ntmps85 fun g w0 R h0 => go [] <| nP 54 [iV x, iV y, uV z, iV st, iV why, iV tr, iV nx, .string (St L)] h0 (fun r10 w11 h12 => ?_)
 refine go [rd 1 1 0 0 3 h12] ?_
 by_cases c13 : 1 ≤ x
 ·
  by_cases c14 : x ≤ 3
  ·
   by_cases c15 : 0 ≤ y
   ·
    by_cases c16 : y ≤ 63
    ·
     by_cases c17 : 1 ≤ z
     ·
      refine cl0 Tryz.call101 (zout_ok x y z (by omega) (by omega)) h12 fun w18 h19 => go [rd 1 6 0 3 1 h19, .s 1 7] ?_
      by_cases c20 : st < 1
      ·
       refine go [.v 1 7 (oT (st < 1))] ?_
       exact en (.bool false) [] ⟨_, _, rfl, ⟨by rw [decide_eq_false (by unfold posP; omega)], rfl⟩, (tk1 (sf1 h19))⟩
      refine go [.v 1 7 (oF (st < 1)), rd 1 11 0 3 1 h19, .s 1 12] ?_
      by_cases c22 : st > 4
      ·
       refine go [.v 1 12 (oT (st > 4))] ?_
       exact en (.bool false) [] ⟨_, _, rfl, ⟨by rw [decide_eq_false (by unfold posP; omega)], rfl⟩, (tk1 (sf1 h19))⟩
      refine go [.v 1 12 (oF (st > 4)), rd 3 1 0 3 1 h19, .s 3 2] ?_
      by_cases c24 : st = 1
      ·
       refine go [.v 3 2 (eT st 1), rd 4 1 0 4 1 h19, .s 4 2] ?_
       by_cases c25 : why = 0
       ·
        refine go [.v 4 2 (eT why 0), rd 4 5 0 5 1 h19, .s 4 6] ?_
        by_cases c26 : tr = 0
        ·
         refine go [.v 4 6 (eT tr 0), rd 4 10 0 6 1 h19, .s 4 11] ?_
         by_cases c27 : nx = 0
         ·
          refine go [.v 4 11 (eT nx 0)] ?_
          exact en (.bool true) [] ⟨_, _, rfl, ⟨by rw [decide_eq_true (by unfold posP; omega)], rfl⟩, (tk1 (sf1 h19))⟩
         refine go [.v 4 11 (eF nx 0)] ?_
         exact en (.bool false) [] ⟨_, _, rfl, ⟨by rw [decide_eq_false (by unfold posP; omega)], rfl⟩, (tk1 (sf1 h19))⟩
        refine go [.v 4 6 (eF tr 0)] ?_
        exact en (.bool false) [] ⟨_, _, rfl, ⟨by rw [decide_eq_false (by unfold posP; omega)], rfl⟩, (tk1 (sf1 h19))⟩
       refine go [.v 4 2 (eF why 0)] ?_
       exact en (.bool false) [] ⟨_, _, rfl, ⟨by rw [decide_eq_false (by unfold posP; omega)], rfl⟩, (tk1 (sf1 h19))⟩
      refine go [.v 3 2 (eF st 1), rd 5 1 0 4 1 h19] ?_
      by_cases c32 : 1 ≤ why
      ·
       by_cases c33 : why ≤ 3
       ·
        refine cl0 Tryz.call102 (zwhy_t why (by omega)) h19 fun w34 h35 => go [rd 5 5 0 5 1 h35, .s 5 6] ?_
        by_cases c36 : tr ≥ 0
        ·
         refine go [.v 5 6 (oT (tr ≥ 0)), rd 5 10 0 5 1 h35, .s 5 11] ?_
         by_cases c37 : tr ≤ 10000
         ·
          refine go [.v 5 11 (oT (tr ≤ 10000)), rd 5 15 0 6 1 h35] ?_
          by_cases c38 : 0 ≤ nx
          ·
           by_cases c39 : nx ≤ 1099511627776
           ·
            refine cl0 Tryz.call103 (ztime_t nx (by omega)) h35 fun w40 h41 => go [rd 5 20 0 3 1 h41, .s 5 21] ?_
            by_cases c42 : st = 2
            ·
             refine go [.v 5 21 (eT st 2)] ?_
             exact en (.bool true) [] ⟨_, _, rfl, ⟨by rw [decide_eq_true (by unfold posP; omega)], rfl⟩, (tk1 (sf1 h41))⟩
            refine go [.v 5 21 (eF st 2), rd 5 24 0 6 1 h41, .s 5 25] ?_
            by_cases c44 : nx = 0
            ·
             refine go [.v 5 25 (eT nx 0)] ?_
             exact en (.bool true) [] ⟨_, _, rfl, ⟨by rw [decide_eq_true (by unfold posP; omega)], rfl⟩, (tk1 (sf1 h41))⟩
            refine go [.v 5 25 (eF nx 0)] ?_
            exact en (.bool false) [] ⟨_, _, rfl, ⟨by rw [decide_eq_false (by unfold posP; omega)], rfl⟩, (tk1 (sf1 h41))⟩
           refine cl0 Tryz.call103 (ztime_f nx (by omega)) h35 fun w47 h48 => go [] ?_
           exact en (.bool false) [] ⟨_, _, rfl, ⟨by rw [decide_eq_false (by unfold posP; omega)], rfl⟩, (tk1 (sf1 h48))⟩
          refine cl0 Tryz.call103 (ztime_f nx (by omega)) h35 fun w50 h51 => go [] ?_
          exact en (.bool false) [] ⟨_, _, rfl, ⟨by rw [decide_eq_false (by unfold posP; omega)], rfl⟩, (tk1 (sf1 h51))⟩
         refine go [.v 5 11 (oF (tr ≤ 10000))] ?_
         exact en (.bool false) [] ⟨_, _, rfl, ⟨by rw [decide_eq_false (by unfold posP; omega)], rfl⟩, (tk1 (sf1 h35))⟩
        refine go [.v 5 6 (oF (tr ≥ 0))] ?_
        exact en (.bool false) [] ⟨_, _, rfl, ⟨by rw [decide_eq_false (by unfold posP; omega)], rfl⟩, (tk1 (sf1 h35))⟩
       refine cl0 Tryz.call102 (zwhy_f why (by omega)) h19 fun w55 h56 => go [] ?_
       exact en (.bool false) [] ⟨_, _, rfl, ⟨by rw [decide_eq_false (by unfold posP; omega)], rfl⟩, (tk1 (sf1 h56))⟩
      refine cl0 Tryz.call102 (zwhy_f why (by omega)) h19 fun w58 h59 => go [] ?_
      exact en (.bool false) [] ⟨_, _, rfl, ⟨by rw [decide_eq_false (by unfold posP; omega)], rfl⟩, (tk1 (sf1 h59))⟩
     refine cl0 Tryz.call101 (zout_no x y z (by omega) (by omega)) h12 fun w61 h62 => go [] ?_
     exact en (.bool false) [] ⟨_, _, rfl, ⟨by rw [decide_eq_false (by unfold posP; omega)], rfl⟩, (tk1 (sf1 h62))⟩
    refine cl0 Tryz.call101 (zout_no x y z (by omega) (by omega)) h12 fun w64 h65 => go [] ?_
    exact en (.bool false) [] ⟨_, _, rfl, ⟨by rw [decide_eq_false (by unfold posP; omega)], rfl⟩, (tk1 (sf1 h65))⟩
   refine cl0 Tryz.call101 (zout_no x y z (by omega) (by omega)) h12 fun w67 h68 => go [] ?_
   exact en (.bool false) [] ⟨_, _, rfl, ⟨by rw [decide_eq_false (by unfold posP; omega)], rfl⟩, (tk1 (sf1 h68))⟩
  refine cl0 Tryz.call101 (zout_no x y z (by omega) (by omega)) h12 fun w70 h71 => go [] ?_
  exact en (.bool false) [] ⟨_, _, rfl, ⟨by rw [decide_eq_false (by unfold posP; omega)], rfl⟩, (tk1 (sf1 h71))⟩
 refine cl0 Tryz.call101 (zout_no x y z (by omega) (by omega)) h12 fun w73 h74 => go [] ?_
 exact en (.bool false) [] ⟨_, _, rfl, ⟨by rw [decide_eq_false (by unfold posP; omega)], rfl⟩, (tk1 (sf1 h74))⟩

set_option maxHeartbeats 4000000 in
theorem zres_ht (x y z st why tr nx : Int) (L : List UInt8) (hz0 : 0 ≤ z) (hz1 : z ≤ 4294967295) (hm : L.length ≤ 100000) : HT Tryz.prog 52 [Value.agg #[Value.int IntKind.i64 x, Value.int IntKind.i64 y, Value.int IntKind.u32 z, Value.int IntKind.i64 st, Value.int IntKind.i64 why, Value.int IntKind.i64 tr, Value.int IntKind.i64 nx, Value.string (St L)]] [] (fun v K => v = Value.int .i64 (resE x y z st why tr nx L) ∧ K = []) := by
 refine hiS Tryz.func52 Tryz.ntmps52 fun g w0 R h0 => go [] <| nP 54 [iV x, iV y, uV z, iV st, iV why, iV tr, iV nx, .string (St L)] h0 (fun r10 w11 h12 => ?_)
 refine go [rd 1 0 0 0 8 h12] ?_
 rcases Bool.eq_false_or_eq_true (decide (posP x y z st why tr nx)) with cb13 | cb13
 ·
  refine cl0 Tryz.call85 ((by have h_ := zposs_ht x y z st why tr nx L (by omega) (by omega); rw [cb13] at h_; exact h_)) h12 fun w14 h15 => ?_
  refine go [rd 3 1 0 7 1 h15] <| cl0 Tryz.call86 (dtag_ht L (by omega)) h15 fun w16 h17 => go [] ?_
  exact en (iV ((tagE L))) [] ⟨_, _, rfl, ⟨by unfold resE; rw [if_pos (of_decide_eq_true cb13)], rfl⟩, (tk1 (sf1 h17))⟩
 refine cl0 Tryz.call85 ((by have h_ := zposs_ht x y z st why tr nx L (by omega) (by omega); rw [cb13] at h_; exact h_)) h12 fun w19 h20 => ?_
 refine go [] ?_
 exact en (iV 2) [] ⟨_, _, rfl, ⟨by unfold resE; rw [if_neg (of_decide_eq_false cb13)], rfl⟩, (tk1 (sf1 h20))⟩

set_option maxHeartbeats 4000000 in
theorem zrn_ok (x y z : Int) (L : List UInt8) (hz0 : 0 ≤ z) (hz1 : z ≤ 4294967295) (hm : L.length ≤ 100000) (ho : 1 ≤ x ∧ x ≤ 3 ∧ 0 ≤ y ∧ y ≤ 63 ∧ 1 ≤ z) (ht : tagE L = 0) : HT Tryz.prog 38 [Value.agg #[Value.int IntKind.i64 x, Value.int IntKind.i64 y, Value.int IntKind.u32 z], Value.string (St L)] [] (fun v K => v = Value.tuple #[Value.agg #[Value.int IntKind.i64 x, Value.int IntKind.i64 y, Value.int IntKind.u32 z, Value.int IntKind.i64 1, Value.int IntKind.i64 0, Value.int IntKind.i64 0, Value.int IntKind.i64 0, Value.string (St L)], Value.int IntKind.i64 0] ∧ K = []) := by
 refine hiS Tryz.func38 Tryz.ntmps38 fun g w0 R h0 => go [] <| nP 36 [iV x, iV y, uV z] h0 (fun r10 w11 h12 => ?_)
 refine nP 54 [iV 0, iV 0, uV 0, iV 0, iV 0, iV 0, iV 0, .string (St [])] h12 (fun r13 w14 h15 => ?_)
 refine go [rd 1 0 1 0 3 h15] <| nP 54 [iV 0, iV 0, uV 0, iV 0, iV 0, iV 0, iV 0, .string (St [])] h15 (fun r16 w17 h18 => ?_)
 refine sP [(0, iV x), (1, iV y), (2, uV z), (3, iV 1), (4, iV 0), (5, iV 0), (6, iV 0), (7, .string (St L))] [iV x, iV y, uV z, iV 1, iV 0, iV 0, iV 0, .string (St L)] h18 fun w19 h20 => go [rd 2 0 0 0 8 h20] <| cl0 Tryz.call52 ((by have h_ := zres_ht x y z 1 0 0 0 L (by omega) (by omega) (by omega); rw [show resE x y z 1 0 0 0 L = 0 from (if_pos (by unfold posP; omega)).trans (show tagE L = 0 from by omega)] at h_; exact h_)) h20 fun w21 h22 => ?_
 have h23 := tk4 (sf3 (sf2 (sf3 (sf3 h22))))
 refine go [rd 5 0 0 0 8 h22] <| sP [(0, iV x), (1, iV y), (2, uV z), (3, iV 1), (4, iV 0), (5, iV 0), (6, iV 0), (7, .string (St L))] [iV x, iV y, uV z, iV 1, iV 0, iV 0, iV 0, .string (St L)] h23 fun w24 h25 => go [] ?_
 exact en (.tuple #[.agg #[iV x, iV y, uV z, iV 1, iV 0, iV 0, iV 0, .string (St L)], iV 0]) [rd 0 0 0 0 8 h25] ⟨_, _, rfl, ⟨rfl, rfl⟩, (tk1 (sf3 h25))⟩

set_option maxHeartbeats 4000000 in
theorem zrn_tag (x y z : Int) (L : List UInt8) (hz0 : 0 ≤ z) (hz1 : z ≤ 4294967295) (hm : L.length ≤ 100000) (ho : 1 ≤ x ∧ x ≤ 3 ∧ 0 ≤ y ∧ y ≤ 63 ∧ 1 ≤ z) (ht : ¬ tagE L = 0) : HT Tryz.prog 38 [Value.agg #[Value.int IntKind.i64 x, Value.int IntKind.i64 y, Value.int IntKind.u32 z], Value.string (St L)] [] (fun v K => v = Value.tuple #[Value.agg #[Value.int IntKind.i64 0, Value.int IntKind.i64 0, Value.int IntKind.u32 0, Value.int IntKind.i64 0, Value.int IntKind.i64 0, Value.int IntKind.i64 0, Value.int IntKind.i64 0, Value.string (St [])], Value.int IntKind.i64 16] ∧ K = []) := by
 refine hiS Tryz.func38 Tryz.ntmps38 fun g w0 R h0 => go [] <| nP 36 [iV x, iV y, uV z] h0 (fun r10 w11 h12 => ?_)
 refine nP 54 [iV 0, iV 0, uV 0, iV 0, iV 0, iV 0, iV 0, .string (St [])] h12 (fun r13 w14 h15 => ?_)
 refine go [rd 1 0 1 0 3 h15] <| nP 54 [iV 0, iV 0, uV 0, iV 0, iV 0, iV 0, iV 0, .string (St [])] h15 (fun r16 w17 h18 => ?_)
 refine sP [(0, iV x), (1, iV y), (2, uV z), (3, iV 1), (4, iV 0), (5, iV 0), (6, iV 0), (7, .string (St L))] [iV x, iV y, uV z, iV 1, iV 0, iV 0, iV 0, .string (St L)] h18 fun w19 h20 => go [rd 2 0 0 0 8 h20] <| cl0 Tryz.call52 ((by have h_ := zres_ht x y z 1 0 0 0 L (by omega) (by omega) (by omega); rw [show resE x y z 1 0 0 0 L = 16 from (if_pos (by unfold posP; omega)).trans (show tagE L = 16 from by have h2_ := tagE_or L; omega)] at h_; exact h_)) h20 fun w21 h22 => ?_
 have h23 := tk4 (sf3 (sf2 (sf3 (sf3 h22))))
 refine go [] <| sP [(0, iV 0), (1, iV 0), (2, uV 0), (3, iV 0), (4, iV 0), (5, iV 0), (6, iV 0), (7, .string (St []))] [iV 0, iV 0, uV 0, iV 0, iV 0, iV 0, iV 0, .string (St [])] h23 fun w24 h25 => go [] ?_
 exact en (.tuple #[.agg #[iV 0, iV 0, uV 0, iV 0, iV 0, iV 0, iV 0, .string (St [])], iV 16]) [rd 0 0 0 0 8 h25] ⟨_, _, rfl, ⟨rfl, rfl⟩, (tk1 (sf3 h25))⟩

set_option maxHeartbeats 4000000 in
theorem zrn_no (x y z : Int) (L : List UInt8) (hz0 : 0 ≤ z) (hz1 : z ≤ 4294967295) (hm : L.length ≤ 100000) (ho : ¬ (1 ≤ x ∧ x ≤ 3 ∧ 0 ≤ y ∧ y ≤ 63 ∧ 1 ≤ z)) : HT Tryz.prog 38 [Value.agg #[Value.int IntKind.i64 x, Value.int IntKind.i64 y, Value.int IntKind.u32 z], Value.string (St L)] [] (fun v K => v = Value.tuple #[Value.agg #[Value.int IntKind.i64 0, Value.int IntKind.i64 0, Value.int IntKind.u32 0, Value.int IntKind.i64 0, Value.int IntKind.i64 0, Value.int IntKind.i64 0, Value.int IntKind.i64 0, Value.string (St [])], Value.int IntKind.i64 2] ∧ K = []) := by
 refine hiS Tryz.func38 Tryz.ntmps38 fun g w0 R h0 => go [] <| nP 36 [iV x, iV y, uV z] h0 (fun r10 w11 h12 => ?_)
 refine nP 54 [iV 0, iV 0, uV 0, iV 0, iV 0, iV 0, iV 0, .string (St [])] h12 (fun r13 w14 h15 => ?_)
 refine go [rd 1 0 1 0 3 h15] <| nP 54 [iV 0, iV 0, uV 0, iV 0, iV 0, iV 0, iV 0, .string (St [])] h15 (fun r16 w17 h18 => ?_)
 refine sP [(0, iV x), (1, iV y), (2, uV z), (3, iV 1), (4, iV 0), (5, iV 0), (6, iV 0), (7, .string (St L))] [iV x, iV y, uV z, iV 1, iV 0, iV 0, iV 0, .string (St L)] h18 fun w19 h20 => go [rd 2 0 0 0 8 h20] <| cl0 Tryz.call52 ((by have h_ := zres_ht x y z 1 0 0 0 L (by omega) (by omega) (by omega); rw [show resE x y z 1 0 0 0 L = 2 from if_neg (by unfold posP; omega)] at h_; exact h_)) h20 fun w21 h22 => ?_
 have h23 := tk4 (sf3 (sf2 (sf3 (sf3 h22))))
 refine go [] <| sP [(0, iV 0), (1, iV 0), (2, uV 0), (3, iV 0), (4, iV 0), (5, iV 0), (6, iV 0), (7, .string (St []))] [iV 0, iV 0, uV 0, iV 0, iV 0, iV 0, iV 0, .string (St [])] h23 fun w24 h25 => go [] ?_
 exact en (.tuple #[.agg #[iV 0, iV 0, uV 0, iV 0, iV 0, iV 0, iV 0, .string (St [])], iV 2]) [rd 0 0 0 0 8 h25] ⟨_, _, rfl, ⟨rfl, rfl⟩, (tk1 (sf3 h25))⟩

end Go.Proofs.YtjjpmehiolejgaaGreat

/- Walks, printed by my generator ../tab/gen9.py. -/
namespace Go.Proofs.YtjjpmehiolejgaaGreat
/-- A table of resources. -/
def Tab (b n : Nat) (A : List Sl2) (E : Tm) (R : List Rs) : Assn := fun h => ∃ x : Nat × Nat × Option Addr × Nat × Tm, (Meq x.2.2.2.2 E ∧ R.length ≤ 2000) ∧
  star [Cl b [.pointer (some ⟨x.1, 0, none⟩), .map (some x.2.1), .slice x.2.2.1 R.length x.2.2.2.1] 71, Tb x.1 n A, Gp kI vE x.2.1 x.2.2.2.2, Sl 40 8 x.2.2.1 R.length x.2.2.2.1 (fl eRs R)] h
section
variable {g w : World} {L : List Assn} {b n : Nat} {A : List Sl2} {E : Tm} {R : List Rs}
theorem tab_open (h : sat g w (Tab b n A E R :: L)) : ∃ s m p c E0, (Meq E0 E ∧ R.length ≤ 2000) ∧ sat g w (Cl b [.pointer (some ⟨s, 0, none⟩), .map (some m), .slice p R.length c] 71 :: Tb s n A :: Gp kI vE m E0 :: Sl 40 8 p R.length c (fl eRs R) :: L) := by
  obtain ⟨⟨s, m, p, c, E0⟩, h1, h2⟩ := sat_open (X := Nat × Nat × Option Addr × Nat × Tm) (p := fun x => Meq x.2.2.2.2 E ∧ R.length ≤ 2000) (B := fun x => star [Cl b [.pointer (some ⟨x.1, 0, none⟩), .map (some x.2.1), .slice x.2.2.1 R.length x.2.2.2.1] 71, Tb x.1 n A, Gp kI vE x.2.1 x.2.2.2.2, Sl 40 8 x.2.2.1 R.length x.2.2.2.1 (fl eRs R)]) h (fun k hk => hk)
  exact ⟨s, m, p, c, E0, h1, sat_unstar h2⟩
theorem tab_close {s m c k : Nat} {p : Option Addr} {E0 : Tm} (h1 : Meq E0 E) (h2 : R.length ≤ 2000) (hk : k = R.length) (h : sat g w (Cl b [.pointer (some ⟨s, 0, none⟩), .map (some m), .slice p k c] 71 :: Tb s n A :: Gp kI vE m E0 :: Sl 40 8 p k c (fl eRs R) :: L)) : sat g w (Tab b n A E R :: L) := by
  subst hk
  exact sat_imp (sat_star (K := [Cl b [.pointer (some ⟨s, 0, none⟩), .map (some m), .slice p R.length c] 71, Tb s n A, Gp kI vE m E0, Sl 40 8 p R.length c (fl eRs R)]) h) fun k hk => ⟨(s, m, p, c, E0), ⟨h1, h2⟩, hk⟩
end
/-- A table of which one knows where the list of its resources lies. -/
def TabX (b n : Nat) (A : List Sl2) (E : Tm) (R : List Rs) (p : Option Addr) (k c : Nat) : Assn := fun h => ∃ x : Nat × Nat × Tm, (Meq x.2.2 E ∧ R.length ≤ 2000) ∧
  star [Cl b [.pointer (some ⟨x.1, 0, none⟩), .map (some x.2.1), .slice p k c] 71, Tb x.1 n A, Gp kI vE x.2.1 x.2.2, Sl 40 8 p k c (fl eRs R)] h
section
variable {g w : World} {L : List Assn} {b n k : Nat} {A : List Sl2} {E : Tm} {R : List Rs} {p : Option Addr} {c : Nat}
theorem tabx_open (h : sat g w (TabX b n A E R p k c :: L)) : ∃ s m E0, (Meq E0 E ∧ R.length ≤ 2000) ∧ sat g w (Cl b [.pointer (some ⟨s, 0, none⟩), .map (some m), .slice p k c] 71 :: Tb s n A :: Gp kI vE m E0 :: Sl 40 8 p k c (fl eRs R) :: L) := by
  obtain ⟨⟨s, m, E0⟩, h1, h2⟩ := sat_open (X := Nat × Nat × Tm) (p := fun x => Meq x.2.2 E ∧ R.length ≤ 2000) (B := fun x => star [Cl b [.pointer (some ⟨x.1, 0, none⟩), .map (some x.2.1), .slice p k c] 71, Tb x.1 n A, Gp kI vE x.2.1 x.2.2, Sl 40 8 p k c (fl eRs R)]) h (fun k hk => hk)
  exact ⟨s, m, E0, h1, sat_unstar h2⟩
theorem tabx_close {s m : Nat} {E0 : Tm} (h1 : Meq E0 E) (h2 : R.length ≤ 2000) (h : sat g w (Cl b [.pointer (some ⟨s, 0, none⟩), .map (some m), .slice p k c] 71 :: Tb s n A :: Gp kI vE m E0 :: Sl 40 8 p k c (fl eRs R) :: L)) : sat g w (TabX b n A E R p k c :: L) :=
  sat_imp (sat_star (K := [Cl b [.pointer (some ⟨s, 0, none⟩), .map (some m), .slice p k c] 71, Tb s n A, Gp kI vE m E0, Sl 40 8 p k c (fl eRs R)]) h) fun k hk => ⟨(s, m, E0), ⟨h1, h2⟩, hk⟩
end
theorem kyI : KyOk Tryz.prog 3 kI := kyInt Tryz.underlying3
set_option maxHeartbeats 4000000 in
theorem tvalid_ht (b n : Nat) (A : List Sl2) (E : Tm) (RL : List Rs) : HT Tryz.prog 29 [Value.pointer (some ⟨b, 0, none⟩)] [Tab b n A E RL] (fun v K => v = Value.bool true ∧ K = [Tab b n A E RL]) := by
 refine hiS Tryz.func29 Tryz.ntmps29 fun g w0 R h0 => ?_
 obtain ⟨s10, m11, p12, c13, E14, hM15, h16⟩ := tab_open h0
 have hRl_ := hM15.2
 refine go [rd 1 6 0 1 1 h16] ?_
 have h17 : sat g w0 [Tab b n A E RL, R] := tab_close hM15.1 (by omega) (by first | rfl | omega) h16
 exact en (.bool true) [] ⟨_, _, rfl, ⟨rfl, rfl⟩, h17⟩

set_option maxHeartbeats 4000000 in
theorem tvalid_n  : HT Tryz.prog 29 [Value.pointer none] [] (fun v K => v = Value.bool false ∧ K = []) := by
 refine hiS Tryz.func29 Tryz.ntmps29 fun g w0 R h0 => go [] ?_
 exact en (.bool false) [] ⟨_, _, rfl, ⟨rfl, rfl⟩, h0⟩

set_option maxHeartbeats 4000000 in
theorem obj_t (i gn : Int) (h : 0 ≤ i ∧ i ≤ 255 ∧ 1 ≤ gn) : HT Tryz.prog 31 [Value.agg #[Value.int IntKind.i64 i, Value.int IntKind.u32 gn]] [] (fun v K => v = Value.bool true ∧ K = []) := by
 refine hiS Tryz.func31 Tryz.ntmps31 fun g w0 R h0 => go [] <| nP 38 [iV i, uV gn] h0 (fun r10 w11 h12 => ?_)
 refine go [rd 1 1 0 0 1 h12, .v 1 2 (oT (i ≥ 0)), rd 1 5 0 0 1 h12, .v 1 6 (oT (i < 256)), rd 1 10 0 1 1 h12, .v 1 11 (oT (gn > 0))] ?_
 exact en (.bool true) [] ⟨_, _, rfl, ⟨rfl, rfl⟩, (tk1 (sf1 h12))⟩

set_option maxHeartbeats 4000000 in
theorem obj_f (i gn : Int) (h : i < 0 ∨ 255 < i ∨ gn ≤ 0) : HT Tryz.prog 31 [Value.agg #[Value.int IntKind.i64 i, Value.int IntKind.u32 gn]] [] (fun v K => v = Value.bool false ∧ K = []) := by
 refine hiS Tryz.func31 Tryz.ntmps31 fun g w0 R h0 => go [] <| nP 38 [iV i, uV gn] h0 (fun r10 w11 h12 => ?_)
 refine go [rd 1 1 0 0 1 h12, .s 1 2] ?_
 by_cases c13 : i ≥ 0
 ·
  refine go [.v 1 2 (oT (i ≥ 0)), rd 1 5 0 0 1 h12, .s 1 6] ?_
  by_cases c14 : i < 256
  ·
   refine go [.v 1 6 (oT (i < 256)), rd 1 10 0 1 1 h12, .v 1 11 (oF (gn > 0))] ?_
   exact en (.bool false) [] ⟨_, _, rfl, ⟨rfl, rfl⟩, (tk1 (sf1 h12))⟩
  refine go [.v 1 6 (oF (i < 256))] ?_
  exact en (.bool false) [] ⟨_, _, rfl, ⟨rfl, rfl⟩, (tk1 (sf1 h12))⟩
 refine go [.v 1 2 (oF (i ≥ 0))] ?_
 exact en (.bool false) [] ⟨_, _, rfl, ⟨rfl, rfl⟩, (tk1 (sf1 h12))⟩

set_option maxHeartbeats 4000000 in
theorem tall1_ht (b : Nat) : HT Tryz.prog 70 [Value.pointer (some ⟨b, 0, none⟩)] [] (fun v K => ∃ c : Nat, v = Value.func (Fn.func 89) #[] #[Value.pointer (some ⟨c, 0, none⟩)] ∧ K = [Cl c [Value.pointer (some ⟨b, 0, none⟩)] 28]) := by
 refine hiS Tryz.func70 Tryz.ntmps70 fun g w0 R h0 => go [] <| nP 28 [pV b] h0 (fun r10 w11 h12 => ?_)
 refine go [] ?_
 exact en (.func (Fn.func 89) #[] #[pV r10]) [] ⟨_, _, rfl, ⟨r10, rfl, rfl⟩, h12⟩

set_option maxHeartbeats 4000000 in
theorem tall_it (c b n : Nat) (A : List Sl2) (E : Tm) (RL : List Rs) : IT Tryz.prog 89 [Value.pointer (some ⟨c, 0, none⟩)] (((allE E).length)) ((fun i => [vE ((allE E).getD i noE)])) [Cl c [Value.pointer (some ⟨b, 0, none⟩)] 28, Tab b n A E RL] := by
 refine it_in 26 (fun k_ => ([(0, .func (Fn.yield k_) #[] #[]), (1, pV c)] : Fr)) Tryz.func89 (by kernel_rfl) Tryz.ntmps89 rfl (fun _ => rfl) ?_
 intro g w0 R k_ J_ E_ hY h0
 have h1 : sat g w0 [J_ 0, Cl c [pV b] 28, Tab b n A E RL, R] := h0
 change WP _ _ (CA Tryz.f89 []) _ (mk 26 (([(0, .func (Fn.yield k_) #[] #[]), (1, pV c)] : Fr))) _
 refine ySq ?_
 refine yPl [0] ?_
 refine yB0 [] [0] [(6, iV 0)] (.mk ?_)
 refine yK [(0, .func (Fn.yield k_) #[] #[]), (1, pV c), (6, iV 0)] fun lr2 => ?_
 refine yBk 0 ?_
 refine gi_lp (x := CA Tryz.f89 [1, 0, 0]) (by kernel_rfl) (fun mz_ a w => ∃ k : Nat, ∃ lr : Fr, mz_ = 256 - k ∧ (k ≤ 256) ∧ a = mk 26 (([(0, .func (Fn.yield k_) #[] #[]), (1, pV c), (6, iV (k : Int))] : Fr) ++ lr) ∧ sat g w [J_ (((someE E k).length)), Cl c [pV b] 28, Tab b n A E RL, R]) (256 - 0) ⟨0, _, rfl, (Nat.zero_le _), (mk_live [(0, .func (Fn.yield k_) #[] #[]), (1, pV c), (6, iV (0 : Int))] ⟨rfl, rfl, (ov_int (by omega)), trivial⟩), h1⟩ ?_
 rintro m4 a5 w6 ⟨k, lr3, rfl, hk, rfl, h7⟩
 refine ySq ?_
 refine yPl [0] ?_
 by_cases c8 : (k : Int) < 256
 ·
  refine yBb [] [(7, .bool true)] [e1 0 (.bool true)] [] [(.bool (decide ((k : Int) < 256)), .bool true)] ⟨(ov_t (by omega)), trivial⟩ nC (.mk ?_)
  refine yK [(0, .func (Fn.yield k_) #[] #[]), (1, pV c), (6, iV (k : Int)), (7, .bool true)] fun lr9 => ?_
  refine ySq ?_
  refine yCt ?_
  refine ySk ?_
  refine ySq ?_
  refine yBk 1 ?_
  refine ySq ?_
  refine yPl [0, 1] ?_
  refine yB0 [] [0, 1] [(3, iV (k : Int)), (8, iV (k : Int))] (.mk ?_)
  refine yK [(0, .func (Fn.yield k_) #[] #[]), (1, pV c), (3, iV (k : Int)), (6, iV (k : Int))] fun lr10 => ?_
  refine ySq ?_
  refine yPl [0, 1, 2, 3, 4, 5, 6, 7, 8, 9, 10, 11] ?_
  have h11 := tk4 (sf3 (sf2 (sf2 (sf3 h7))))
  obtain ⟨s12, m13, p14, c15, E16, hM17, h18⟩ := tab_open h11
  have hRl_ := hM17.2
  refine yBb [5, 6, 7, 8, 9, 10, 11] [(14, iV (k : Int)), (13, .map (some m13)), (12, .pointer (some ⟨b, 1, none⟩)), (11, pV b), (10, pV b)] [e2 0 [pV b], e0 1, e0 2, e2 3 [.map (some m13)], e0 4] [(3, ⟨b, 1, none⟩, .map (some m13)), (0, ⟨c, 0, none⟩, pV b)] [] trivial (kC (sat_cell h18 0 rfl rfl) (kC (sat_cell h7 1 rfl rfl) nC)) ?_
  rcases hg20 : gget E (k : Int) with _ | e19
  ·
   refine yA ?_
   refine act_law (d := 15) (.tuple #[.agg #[iV 0, iV 0, uV 0, iV 0, iV 0, uV 0], .bool false]) (by kernel_rfl) rfl (law_lookupOk (t := 68) (z := .agg #[iV 0, iV 0, uV 0, iV 0, iV 0, uV 0]) (m := (Operand.tmp 13)) (x := (Operand.tmp 14)) (kv := kI) (ve := vE) (by kernel_rfl) Tryz.underlying68 kyI (by kernel_rfl) (k : Int) (by kernel_rfl) (by kernel_rfl) (j := 2) h18 rfl (.agg #[iV 0, iV 0, uV 0, iV 0, iV 0, uV 0]) false (by rw [hM17.1.2.2 (k : Int), hg20]; exact ⟨rfl, rfl⟩)) ?_
   refine yB0 [9, 10, 11] [6, 7, 8] [(17, .bool false), (16, .agg #[iV 0, iV 0, uV 0, iV 0, iV 0, uV 0]), (9, .tuple #[.agg #[iV 0, iV 0, uV 0, iV 0, iV 0, uV 0], .bool false])] ?_
   refine yA ?_
   refine yNp 4 89 [iV 0, iV 0, uV 0, iV 0, iV 0, uV 0] h18 fun r21 w22 h23 => ?_
   refine yA ?_
   refine yS [(0, iV 0), (1, iV 0), (2, uV 0), (3, iV 0), (4, iV 0), (5, uV 0)] [iV 0, iV 0, uV 0, iV 0, iV 0, uV 0] h23 fun w24 h25 => ?_
   refine yB0 [] [11] [(5, .bool false)] (.mk ?_)
   refine yK [(0, .func (Fn.yield k_) #[] #[]), (1, pV c), (4, pV r21), (5, .bool false), (6, iV (k : Int))] fun lr26 => ?_
   refine ySq ?_
   have h27 := tk8 (sf7 (sf7 (sf7 (sf7 (sf3 (sf7 (sf7 (sf7 h25))))))))
   have h28 : sat g w24 [Tab b n A E RL, Cl r21 [iV 0, iV 0, uV 0, iV 0, iV 0, uV 0] 89, J_ (((someE E k).length)), Cl c [pV b] 28, R] := tab_close hM17.1 (by omega) (by first | rfl | omega) h27
   refine gi_ply (id := 4) (ops := RA Tryz.f89 [1, 0, 0, 1, 1, 0, 0, 1, 1, 0]) [0, 1, 2, 3] [4, 5, 6] (by kernel_rfl) (by kernel_rfl) (by kernel_rfl) ?_
   refine yB0 [] [0, 1, 2, 3] [(21, undef), (20, undef), (19, .bool false), (18, .bool false)] (.mk ?_)
   refine yp_skip (by kernel_rfl) ?_
   refine plain_skip (by kernel_rfl : chkN (RA Tryz.f89 [1, 0, 0, 1, 1, 0, 0, 1, 1, 0]) 26 _ 4 = some (some 22)) rfl ?_
   refine yB0 [] [5, 6] [(24, .bool false), (23, undef)] (.mk ?_)
   refine yK [(0, .func (Fn.yield k_) #[] #[]), (1, pV c), (6, iV (k : Int)), (24, .bool false)] fun lr29 => ?_
   refine yCf ?_
   refine ySk ?_
   refine yPl [0, 1] ?_
   refine yBb [] [(6, iV ((k : Int) + 1)), (25, iV ((k : Int) + 1))] [e1 0 (iV ((k : Int) + 1)), e0 1] [] [(iV (IntKind.wrap .i64 ((k : Int) + 1)), iV ((k : Int) + 1))] ⟨(ov_i64 (by omega) (by omega) (by omega)), trivial⟩ nC (.mk ?_)
   have h30 := tk5 (sf4 (sf3 (sf3 (sf4 (sf4 h28)))))
   have h31 : sat g w24 [J_ (((someE E (k + 1)).length)), Tab b n A E RL, Cl r21 [iV 0, iV 0, uV 0, iV 0, iV 0, uV 0] 89, Cl c [pV b] 28, R] := (show ((someE E k).length) = (someE E (k + 1)).length from (cntE_no hg20).symm) ▸ h30
   have h32 := tk5 (sf4 (sf4 (sf3 (sf4 (sf2 h31)))))
   have h33 := tk4 h32
   change ∃ n', n' < _ ∧ _
   refine ⟨(256 - (k + 1)), by omega, (k + 1), _, rfl, (by omega), (mk_live [(0, .func (Fn.yield k_) #[] #[]), (1, pV c), (6, iV ((((k + 1) : Nat) : Int)))] ⟨rfl, rfl, (ov_int (by omega)), trivial⟩), h33⟩
  ·
   refine yA ?_
   refine act_law (d := 15) (.tuple #[.agg #[iV e19.d.1, iV e19.d.2.1, uV e19.d.2.2, iV e19.num, iV e19.h.1, uV e19.h.2], .bool true]) (by kernel_rfl) rfl (law_lookupOk (t := 68) (z := .agg #[iV 0, iV 0, uV 0, iV 0, iV 0, uV 0]) (m := (Operand.tmp 13)) (x := (Operand.tmp 14)) (kv := kI) (ve := vE) (by kernel_rfl) Tryz.underlying68 kyI (by kernel_rfl) (k : Int) (by kernel_rfl) (by kernel_rfl) (j := 2) h18 rfl (.agg #[iV e19.d.1, iV e19.d.2.1, uV e19.d.2.2, iV e19.num, iV e19.h.1, uV e19.h.2]) true (by rw [hM17.1.2.2 (k : Int), hg20]; exact ⟨rfl, rfl⟩)) ?_
   refine yB0 [9, 10, 11] [6, 7, 8] [(17, .bool true), (16, .agg #[iV e19.d.1, iV e19.d.2.1, uV e19.d.2.2, iV e19.num, iV e19.h.1, uV e19.h.2]), (9, .tuple #[.agg #[iV e19.d.1, iV e19.d.2.1, uV e19.d.2.2, iV e19.num, iV e19.h.1, uV e19.h.2], .bool true])] ?_
   refine yA ?_
   refine yNp 4 89 [iV 0, iV 0, uV 0, iV 0, iV 0, uV 0] h18 fun r34 w35 h36 => ?_
   refine yA ?_
   refine yS [(0, iV e19.d.1), (1, iV e19.d.2.1), (2, uV e19.d.2.2), (3, iV e19.num), (4, iV e19.h.1), (5, uV e19.h.2)] [iV e19.d.1, iV e19.d.2.1, uV e19.d.2.2, iV e19.num, iV e19.h.1, uV e19.h.2] h36 fun w37 h38 => ?_
   refine yB0 [] [11] [(5, .bool true)] (.mk ?_)
   refine yK [(0, .func (Fn.yield k_) #[] #[]), (1, pV c), (4, pV r34), (5, .bool true), (6, iV (k : Int))] fun lr39 => ?_
   refine ySq ?_
   have h40 := tk8 (sf7 (sf7 (sf7 (sf7 (sf3 (sf7 (sf7 (sf7 h38))))))))
   have h41 : sat g w37 [Tab b n A E RL, Cl r34 [iV e19.d.1, iV e19.d.2.1, uV e19.d.2.2, iV e19.num, iV e19.h.1, uV e19.h.2] 89, J_ (((someE E k).length)), Cl c [pV b] 28, R] := tab_close hM17.1 (by omega) (by first | rfl | omega) h40
   refine gi_ply (id := 4) (ops := RA Tryz.f89 [1, 0, 0, 1, 1, 0, 0, 1, 1, 0]) [0, 1, 2, 3] [4, 5, 6] (by kernel_rfl) (by kernel_rfl) (by kernel_rfl) ?_
   refine yBb [] [(21, .agg #[iV e19.d.1, iV e19.d.2.1, uV e19.d.2.2, iV e19.num, iV e19.h.1, uV e19.h.2]), (20, .func (Fn.yield k_) #[] #[]), (19, .bool true), (18, .bool true)] [e0 0, e0 1, e0 2, e2 3 [iV e19.d.1, iV e19.d.2.1, uV e19.d.2.2, iV e19.num, iV e19.h.1, uV e19.h.2]] [(3, ⟨r34, 0, none⟩, iV e19.d.1), (3, ⟨r34, 1, none⟩, iV e19.d.2.1), (3, ⟨r34, 2, none⟩, uV e19.d.2.2), (3, ⟨r34, 3, none⟩, iV e19.num), (3, ⟨r34, 4, none⟩, iV e19.h.1), (3, ⟨r34, 5, none⟩, uV e19.h.2)] [] trivial (kC (sat_cell h41 1 rfl rfl) (kC (sat_cell h41 1 rfl rfl) (kC (sat_cell h41 1 rfl rfl) (kC (sat_cell h41 1 rfl rfl) (kC (sat_cell h41 1 rfl rfl) (kC (sat_cell h41 1 rfl rfl) nC)))))) (.mk ?_)
   have h42 := tk5 (sf4 (sf4 (sf2 (sf2 (sf4 h41)))))
   change YP _ (RA Tryz.f89 [1, 0, 0, 1, 1, 0, 0, 1, 1, 0]) _ [4, 5, 6] (mk 26 (([(21, .agg #[iV e19.d.1, iV e19.d.2.1, uV e19.d.2.2, iV e19.num, iV e19.h.1, uV e19.h.2]), (20, .func (Fn.yield k_) #[] #[]), (19, .bool true), (18, .bool true), (0, .func (Fn.yield k_) #[] #[]), (1, pV c), (4, pV r34), (5, .bool true), (6, iV (k : Int))] : Fr) ++ lr39)) _
   refine yp_yield (d := some 22) (k := k_) (args := [Value.agg #[Value.int IntKind.i64 e19.d.1, Value.int IntKind.i64 e19.d.2.1, Value.int IntKind.u32 e19.d.2.2, Value.int IntKind.i64 e19.num, Value.int IntKind.i64 e19.h.1, Value.int IntKind.u32 e19.h.2]]) (xa := ((fun i => [vE ((allE E).getD i noE)])) (((someE E k).length))) (S1 := fun w => sat g w [J_ (((someE E k).length) + 1), Cl c [Value.pointer (some ⟨b, 0, none⟩)] 28, Tab b n A E RL, Cl r34 [Value.int IntKind.i64 e19.d.1, Value.int IntKind.i64 e19.d.2.1, Value.int IntKind.u32 e19.d.2.2, Value.int IntKind.i64 e19.num, Value.int IntKind.i64 e19.h.1, Value.int IntKind.u32 e19.h.2] 89, R]) (S2 := fun w => sat g w [E_ (((someE E k).length)), Cl r34 [Value.int IntKind.i64 e19.d.1, Value.int IntKind.i64 e19.d.2.1, Value.int IntKind.u32 e19.d.2.2, Value.int IntKind.i64 e19.num, Value.int IntKind.i64 e19.h.1, Value.int IntKind.u32 e19.h.2] 89, R]) (by kernel_rfl) (by kernel_rfl) (by kernel_rfl) ((by show [vE ((allE E).getD (((someE E k).length)) noE)] = _; rw [getD_some (allE_at hg20 (by omega))]; rfl)) (hY (((someE E k).length)) ((List.getElem?_eq_some_iff.1 (allE_at hg20 (by omega))).1) _ [Cl r34 [Value.int IntKind.i64 e19.d.1, Value.int IntKind.i64 e19.d.2.1, Value.int IntKind.u32 e19.d.2.2, Value.int IntKind.i64 e19.num, Value.int IntKind.i64 e19.h.1, Value.int IntKind.u32 e19.h.2] 89, R] h42) ?_ ?_
   ·
    intro w43 h44
    refine ⟨_, rfl, ?_⟩
    have h45 : sat g w43 [J_ (((someE E k).length) + 1), Cl c [pV b] 28, Tab b n A E RL, Cl r34 [iV e19.d.1, iV e19.d.2.1, uV e19.d.2.2, iV e19.num, iV e19.h.1, uV e19.h.2] 89, R] := h44
    have hlt46 := ((List.getElem?_eq_some_iff.1 (allE_at hg20 (by omega))).1 : ((someE E k).length) < ((allE E).length))
    refine yB0 [] [5, 6] [(24, .bool false), (23, .bool false)] (.mk ?_)
    refine yK [(0, .func (Fn.yield k_) #[] #[]), (1, pV c), (6, iV (k : Int)), (24, .bool false)] fun lr47 => ?_
    refine yCf ?_
    refine ySk ?_
    refine yPl [0, 1] ?_
    refine yBb [] [(6, iV ((k : Int) + 1)), (25, iV ((k : Int) + 1))] [e1 0 (iV ((k : Int) + 1)), e0 1] [] [(iV (IntKind.wrap .i64 ((k : Int) + 1)), iV ((k : Int) + 1))] ⟨(ov_i64 (by omega) (by omega) (by omega)), trivial⟩ nC (.mk ?_)
    have h48 : sat g w43 [J_ (((someE E (k + 1)).length)), Cl c [pV b] 28, Tab b n A E RL, Cl r34 [iV e19.d.1, iV e19.d.2.1, uV e19.d.2.2, iV e19.num, iV e19.h.1, uV e19.h.2] 89, R] := (show ((someE E k).length) + 1 = (someE E (k + 1)).length from (cntE_go hg20).symm) ▸ h45
    have h49 := tk5 (sf4 (sf4 (sf4 (sf4 (sf3 h48)))))
    have h50 := tk4 h49
    change ∃ n', n' < _ ∧ _
    refine ⟨(256 - (k + 1)), by omega, (k + 1), _, rfl, (by omega), (mk_live [(0, .func (Fn.yield k_) #[] #[]), (1, pV c), (6, iV ((((k + 1) : Nat) : Int)))] ⟨rfl, rfl, (ov_int (by omega)), trivial⟩), h50⟩
   ·
    intro w51 h52
    refine ⟨_, rfl, ?_⟩
    have h53 : sat g w51 [E_ (((someE E k).length)), Cl r34 [iV e19.d.1, iV e19.d.2.1, uV e19.d.2.2, iV e19.num, iV e19.h.1, uV e19.h.2] 89, R] := h52
    have hlt54 := ((List.getElem?_eq_some_iff.1 (allE_at hg20 (by omega))).1 : ((someE E k).length) < ((allE E).length))
    refine yB0 [] [5, 6] [(24, .bool true), (23, .bool true)] (.mk ?_)
    refine yK [(0, .func (Fn.yield k_) #[] #[]), (1, pV c), (6, iV (k : Int)), (24, .bool true)] fun lr55 => ?_
    refine yCt ?_
    refine yRt ?_
    repeat (first | simp only [Exit.inBlock] | simp only [Exit.then])
    refine hi_out [] (.tuple #[]) [] (by kernel_rfl) (by intro q hq; cases hq) ⟨⟨_, rfl⟩, ?_⟩
    have h56 := tk3 (sf2 (sf2 (sf1 h53)))
    have h57 := tk2 h56
    exact .inr ⟨((someE E k).length), (by omega), h57⟩
 ·
  refine yBb [] [(7, .bool false)] [e1 0 (.bool false)] [] [(.bool (decide ((k : Int) < 256)), .bool false)] ⟨(ov_f (by omega)), trivial⟩ nC (.mk ?_)
  refine yK [(0, .func (Fn.yield k_) #[] #[]), (1, pV c), (6, iV (k : Int)), (7, .bool false)] fun lr58 => ?_
  refine ySq ?_
  refine yCf ?_
  refine yEx 0 ?_
  repeat (first | simp only [Exit.inBlock] | simp only [Exit.then])
  refine hi_outn [] (.tuple #[]) [] (by kernel_rfl) (by intro q hq; cases hq) ⟨⟨_, rfl⟩, ?_⟩
  have he_ : ((someE E k).length) = ((allE E).length) := (by show _ = (someE E 256).length; rw [show k = 256 from by omega])
  exact .inl (he_ ▸ h7)

end Go.Proofs.YtjjpmehiolejgaaGreat

/- Walks, printed by my generator ../tab/gen10.py. -/
namespace Go.Proofs.YtjjpmehiolejgaaGreat
theorem seq25_neq_t {n : Nat} {l : Fr} {o : Oper} {x y : Operand} (a0 : Int) (a1 : Int) (a2 : Int) (c0 : Int) (c1 : Int) (c2 : Int) (ho : o.op = .binOp .neq 25 x y 25) (hx : fe n l x = .agg #[.int .i64 a0, .int .i64 a1, .int .u32 a2]) (hy : fe n l y = .agg #[.int .i64 c0, .int .i64 c1, .int .u32 c2]) (h : a0 = c0 ∧ a1 = c1 ∧ a2 = c2) (w : World) : (execOp (fe n l) o).run Tryz.prog w = .ok (.value (.bool false)) w := by
  obtain ⟨rfl, rfl, rfl⟩ := h
  simp [execOp, ho, hx, hy, go_sem]
theorem seq25_neq_f {n : Nat} {l : Fr} {o : Oper} {x y : Operand} (a0 : Int) (a1 : Int) (a2 : Int) (c0 : Int) (c1 : Int) (c2 : Int) (ho : o.op = .binOp .neq 25 x y 25) (hx : fe n l x = .agg #[.int .i64 a0, .int .i64 a1, .int .u32 a2]) (hy : fe n l y = .agg #[.int .i64 c0, .int .i64 c1, .int .u32 c2]) (h : ¬ (a0 = c0 ∧ a1 = c1 ∧ a2 = c2)) (w : World) : (execOp (fe n l) o).run Tryz.prog w = .ok (.value (.bool true)) w := by
  by_cases h0 : a0 = c0
  · skip
    by_cases h1 : a1 = c1
    · skip
      by_cases h2 : a2 = c2
      · exact absurd ⟨h0, h1, h2⟩ h
      · simp [execOp, ho, hx, hy, go_sem, h0, h1, h2]
    · simp [execOp, ho, hx, hy, go_sem, h0, h1]
  · simp [execOp, ho, hx, hy, go_sem, h0]
set_option maxHeartbeats 4000000 in
theorem tfind_n (x y z : Int) : HT Tryz.prog 43 [Value.pointer none, Value.agg #[Value.int IntKind.i64 x, Value.int IntKind.i64 y, Value.int IntKind.u32 z]] [] (fun v K => v = Value.tuple #[Value.agg #[Value.int IntKind.i64 0, Value.int IntKind.i64 0, Value.int IntKind.u32 0, Value.int IntKind.i64 0, Value.int IntKind.i64 0, Value.int IntKind.u32 0], Value.int IntKind.i64 1] ∧ K = []) := by
 refine hiS Tryz.func43 Tryz.ntmps43 fun g w0 R h0 => go [] <| nP 25 [iV x, iV y, uV z] h0 (fun r10 w11 h12 => ?_)
 refine nP 89 [iV 0, iV 0, uV 0, iV 0, iV 0, uV 0] h12 (fun r13 w14 h15 => ?_)
 refine go [] <| cl0 Tryz.call29 (tvalid_n) h15 fun w16 h17 => go [] <| sP [(0, iV 0), (1, iV 0), (2, uV 0), (3, iV 0), (4, iV 0), (5, uV 0)] [iV 0, iV 0, uV 0, iV 0, iV 0, uV 0] h17 fun w18 h19 => go [] ?_
 exact en (.tuple #[.agg #[iV 0, iV 0, uV 0, iV 0, iV 0, uV 0], iV 1]) [rd 0 0 0 0 6 h19] ⟨_, _, rfl, ⟨rfl, rfl⟩, (tk1 (sf2 h19))⟩

set_option maxHeartbeats 4000000 in
theorem tfind_bad (b n : Nat) (A : List Sl2) (E : Tm) (RL : List Rs) (x y z : Int) (hz0 : 0 ≤ z) (hz1 : z ≤ 4294967295) (ho : ¬ (1 ≤ x ∧ x ≤ 3 ∧ 0 ≤ y ∧ y ≤ 255 ∧ 1 ≤ z)) : HT Tryz.prog 43 [Value.pointer (some ⟨b, 0, none⟩), Value.agg #[Value.int IntKind.i64 x, Value.int IntKind.i64 y, Value.int IntKind.u32 z]] [Tab b n A E RL] (fun v K => v = Value.tuple #[Value.agg #[Value.int IntKind.i64 0, Value.int IntKind.i64 0, Value.int IntKind.u32 0, Value.int IntKind.i64 0, Value.int IntKind.i64 0, Value.int IntKind.u32 0], Value.int IntKind.i64 2] ∧ K = [Tab b n A E RL]) := by
 refine hiS Tryz.func43 Tryz.ntmps43 fun g w0 R h0 => go [] <| nP 25 [iV x, iV y, uV z] h0 (fun r10 w11 h12 => ?_)
 refine nP 89 [iV 0, iV 0, uV 0, iV 0, iV 0, uV 0] h12 (fun r13 w14 h15 => ?_)
 have h16 := tk4 (sf3 (sf2 (sf2 (sf3 h15))))
 refine go [] <| cl1 Tryz.call29 (tvalid_ht b n A E RL) h16 fun w17 h18 => go [rd 3 0 2 0 3 h18] ?_
 by_cases c19 : 1 ≤ x
 ·
  by_cases c20 : x ≤ 3
  ·
   by_cases c21 : 0 ≤ y
   ·
    by_cases c22 : y ≤ 255
    ·
     refine cl0 Tryz.call76 (cdesc_no x y z (by omega) (by omega) (by omega)) h18 fun w23 h24 => ?_
     have h25 := tk4 (sf3 (sf2 (sf3 (sf3 h24))))
     refine go [] <| sP [(0, iV 0), (1, iV 0), (2, uV 0), (3, iV 0), (4, iV 0), (5, uV 0)] [iV 0, iV 0, uV 0, iV 0, iV 0, uV 0] h25 fun w26 h27 => go [] ?_
     exact en (.tuple #[.agg #[iV 0, iV 0, uV 0, iV 0, iV 0, uV 0], iV 2]) [rd 0 0 0 0 6 h27] ⟨_, _, rfl, ⟨rfl, rfl⟩, (tk2 (sf1 (sf3 (tk4 (sf3 (sf2 (sf3 (sf3 h27))))))))⟩
    refine cl0 Tryz.call76 (cdesc_no x y z (by omega) (by omega) (by omega)) h18 fun w30 h31 => ?_
    have h32 := tk4 (sf3 (sf2 (sf3 (sf3 h31))))
    refine go [] <| sP [(0, iV 0), (1, iV 0), (2, uV 0), (3, iV 0), (4, iV 0), (5, uV 0)] [iV 0, iV 0, uV 0, iV 0, iV 0, uV 0] h32 fun w33 h34 => go [] ?_
    exact en (.tuple #[.agg #[iV 0, iV 0, uV 0, iV 0, iV 0, uV 0], iV 2]) [rd 0 0 0 0 6 h34] ⟨_, _, rfl, ⟨rfl, rfl⟩, (tk2 (sf1 (sf3 (tk4 (sf3 (sf2 (sf3 (sf3 h34))))))))⟩
   refine cl0 Tryz.call76 (cdesc_no x y z (by omega) (by omega) (by omega)) h18 fun w37 h38 => ?_
   have h39 := tk4 (sf3 (sf2 (sf3 (sf3 h38))))
   refine go [] <| sP [(0, iV 0), (1, iV 0), (2, uV 0), (3, iV 0), (4, iV 0), (5, uV 0)] [iV 0, iV 0, uV 0, iV 0, iV 0, uV 0] h39 fun w40 h41 => go [] ?_
   exact en (.tuple #[.agg #[iV 0, iV 0, uV 0, iV 0, iV 0, uV 0], iV 2]) [rd 0 0 0 0 6 h41] ⟨_, _, rfl, ⟨rfl, rfl⟩, (tk2 (sf1 (sf3 (tk4 (sf3 (sf2 (sf3 (sf3 h41))))))))⟩
  refine cl0 Tryz.call76 (cdesc_no x y z (by omega) (by omega) (by omega)) h18 fun w44 h45 => ?_
  have h46 := tk4 (sf3 (sf2 (sf3 (sf3 h45))))
  refine go [] <| sP [(0, iV 0), (1, iV 0), (2, uV 0), (3, iV 0), (4, iV 0), (5, uV 0)] [iV 0, iV 0, uV 0, iV 0, iV 0, uV 0] h46 fun w47 h48 => go [] ?_
  exact en (.tuple #[.agg #[iV 0, iV 0, uV 0, iV 0, iV 0, uV 0], iV 2]) [rd 0 0 0 0 6 h48] ⟨_, _, rfl, ⟨rfl, rfl⟩, (tk2 (sf1 (sf3 (tk4 (sf3 (sf2 (sf3 (sf3 h48))))))))⟩
 refine cl0 Tryz.call76 (cdesc_no x y z (by omega) (by omega) (by omega)) h18 fun w51 h52 => ?_
 have h53 := tk4 (sf3 (sf2 (sf3 (sf3 h52))))
 refine go [] <| sP [(0, iV 0), (1, iV 0), (2, uV 0), (3, iV 0), (4, iV 0), (5, uV 0)] [iV 0, iV 0, uV 0, iV 0, iV 0, uV 0] h53 fun w54 h55 => go [] ?_
 exact en (.tuple #[.agg #[iV 0, iV 0, uV 0, iV 0, iV 0, uV 0], iV 2]) [rd 0 0 0 0 6 h55] ⟨_, _, rfl, ⟨rfl, rfl⟩, (tk2 (sf1 (sf3 (tk4 (sf3 (sf2 (sf3 (sf3 h55))))))))⟩

set_option maxHeartbeats 4000000 in
theorem tfind_none (b n : Nat) (A : List Sl2) (E : Tm) (RL : List Rs) (x y z : Int) (hz0 : 0 ≤ z) (hz1 : z ≤ 4294967295) (ho : 1 ≤ x ∧ x ≤ 3 ∧ 0 ≤ y ∧ y ≤ 255 ∧ 1 ≤ z) (hg_ : gget E y = none) : HT Tryz.prog 43 [Value.pointer (some ⟨b, 0, none⟩), Value.agg #[Value.int IntKind.i64 x, Value.int IntKind.i64 y, Value.int IntKind.u32 z]] [Tab b n A E RL] (fun v K => v = Value.tuple #[Value.agg #[Value.int IntKind.i64 0, Value.int IntKind.i64 0, Value.int IntKind.u32 0, Value.int IntKind.i64 0, Value.int IntKind.i64 0, Value.int IntKind.u32 0], Value.int IntKind.i64 7] ∧ K = [Tab b n A E RL]) := by
 refine hiS Tryz.func43 Tryz.ntmps43 fun g w0 R h0 => go [] <| nP 25 [iV x, iV y, uV z] h0 (fun r10 w11 h12 => ?_)
 refine nP 89 [iV 0, iV 0, uV 0, iV 0, iV 0, uV 0] h12 (fun r13 w14 h15 => ?_)
 have h16 := tk4 (sf3 (sf2 (sf2 (sf3 h15))))
 refine go [] <| cl1 Tryz.call29 (tvalid_ht b n A E RL) h16 fun w17 h18 => go [rd 3 0 2 0 3 h18] <| cl0 Tryz.call76 (cdesc_ok x y z (by omega) (by omega) (by omega)) h18 fun w19 h20 => go [] <| dw (fls [0, 1, 2, 3, 4, 5] (Tr.an2 6 (fls [7, 8, 9] (Tr.an 10 (Tr.an 11 (Tr.fl 12 Tr.nil)))) 10 (Tr.an 6 (fls [7, 8, 9] (Tr.an 11 (Tr.fl 12 Tr.nil)))))) h20 fun w21 h22 => ?_
 obtain ⟨s23, m24, p25, c26, E27, hM28, h29⟩ := tab_open h22
 have hRl_ := hM28.2
 refine go [rd 5 3 0 1 1 h29, rd 5 5 5 1 1 h29] ?_
 refine br2 ?_ ?_
 ·
  refine actG ?_
  refine act_law (d := 25) (.tuple #[.agg #[iV 0, iV 0, uV 0, iV 0, iV 0, uV 0], .bool false]) (by kernel_rfl) rfl (law_lookupOk (t := 68) (z := .agg #[iV 0, iV 0, uV 0, iV 0, iV 0, uV 0]) (m := (Operand.tmp 22)) (x := (Operand.tmp 24)) (kv := kI) (ve := vE) (by kernel_rfl) Tryz.underlying68 kyI (by kernel_rfl) y (by kernel_rfl) (by kernel_rfl) (j := 2) h29 rfl (.agg #[iV 0, iV 0, uV 0, iV 0, iV 0, uV 0]) false (by rw [hM28.1.2.2 y, hg_]; exact ⟨rfl, rfl⟩)) ?_
  refine ⟨kd [], nxG ?_⟩
  refine go [] <| nG (fun q_ => pV q_) 89 [iV 0, iV 0, uV 0, iV 0, iV 0, uV 0] h29 (fun r30 w31 h32 => ⟨kd [], ?_⟩)
  refine sG [(0, iV 0), (1, iV 0), (2, uV 0), (3, iV 0), (4, iV 0), (5, uV 0)] [iV 0, iV 0, uV 0, iV 0, iV 0, uV 0] h32 fun w33 h34 => ⟨kd [], ?_⟩
  have h35 := tk8 (sf7 (sf6 (sf6 (sf6 (sf6 (sf6 (sf7 (sf7 h34))))))))
  refine go [] <| sP [(0, iV 0), (1, iV 0), (2, uV 0), (3, iV 0), (4, iV 0), (5, uV 0)] [iV 0, iV 0, uV 0, iV 0, iV 0, uV 0] h35 fun w36 h37 => go [] ?_
  have h39 : sat g w36 [Tab b n A E RL, Cl r13 [iV 0, iV 0, uV 0, iV 0, iV 0, uV 0] 89, Cl r30 [iV 0, iV 0, uV 0, iV 0, iV 0, uV 0] 89, Cl r10 [iV x, iV y, uV z] 25, R] := tab_close hM28.1 (by omega) (by first | rfl | omega) (tk8 (sf7 (sf7 (sf7 (sf7 (sf3 (sf3 (sf7 (sf7 h37)))))))))
  exact en (.tuple #[.agg #[iV 0, iV 0, uV 0, iV 0, iV 0, uV 0], iV 7]) [rd 0 0 0 0 6 h37] ⟨_, _, rfl, ⟨rfl, rfl⟩, (tk2 (sf1 (sf4 h39)))⟩
 refine nG (fun q_ => pV q_) 89 [iV 0, iV 0, uV 0, iV 0, iV 0, uV 0] h29 (fun r41 w42 h43 => ⟨kd [rd 0 5 6 1 1 h43, rd 0 3 1 1 1 h43], ?_⟩)
 refine actG ?_
 refine act_law (d := 25) (.tuple #[.agg #[iV 0, iV 0, uV 0, iV 0, iV 0, uV 0], .bool false]) (by kernel_rfl) rfl (law_lookupOk (t := 68) (z := .agg #[iV 0, iV 0, uV 0, iV 0, iV 0, uV 0]) (m := (Operand.tmp 22)) (x := (Operand.tmp 24)) (kv := kI) (ve := vE) (by kernel_rfl) Tryz.underlying68 kyI (by kernel_rfl) y (by kernel_rfl) (by kernel_rfl) (j := 3) h43 rfl (.agg #[iV 0, iV 0, uV 0, iV 0, iV 0, uV 0]) false (by rw [hM28.1.2.2 y, hg_]; exact ⟨rfl, rfl⟩)) ?_
 refine ⟨kd [], nxG ?_⟩
 refine go [] <| sG [(0, iV 0), (1, iV 0), (2, uV 0), (3, iV 0), (4, iV 0), (5, uV 0)] [iV 0, iV 0, uV 0, iV 0, iV 0, uV 0] h43 fun w44 h45 => ⟨kd [], ?_⟩
 have h46 := tk8 (sf7 (sf6 (sf6 (sf6 (sf6 (sf6 (sf7 (sf7 h45))))))))
 refine go [] <| sP [(0, iV 0), (1, iV 0), (2, uV 0), (3, iV 0), (4, iV 0), (5, uV 0)] [iV 0, iV 0, uV 0, iV 0, iV 0, uV 0] h46 fun w47 h48 => go [] ?_
 have h50 : sat g w47 [Tab b n A E RL, Cl r13 [iV 0, iV 0, uV 0, iV 0, iV 0, uV 0] 89, Cl r41 [iV 0, iV 0, uV 0, iV 0, iV 0, uV 0] 89, Cl r10 [iV x, iV y, uV z] 25, R] := tab_close hM28.1 (by omega) (by first | rfl | omega) (tk8 (sf7 (sf7 (sf7 (sf7 (sf3 (sf3 (sf7 (sf7 h48)))))))))
 exact en (.tuple #[.agg #[iV 0, iV 0, uV 0, iV 0, iV 0, uV 0], iV 7]) [rd 0 0 0 0 6 h48] ⟨_, _, rfl, ⟨rfl, rfl⟩, (tk2 (sf1 (sf4 h50)))⟩

set_option maxHeartbeats 4000000 in
theorem tfind_ok (b n : Nat) (A : List Sl2) (E : Tm) (RL : List Rs) (x y z : Int) (e : Ety) (hz0 : 0 ≤ z) (hz1 : z ≤ 4294967295) (ho : 1 ≤ x ∧ x ≤ 3 ∧ 0 ≤ y ∧ y ≤ 255 ∧ 1 ≤ z) (hg_ : gget E y = some e) (hd_ : e.d.1 = x ∧ e.d.2.1 = y ∧ e.d.2.2 = z) : HT Tryz.prog 43 [Value.pointer (some ⟨b, 0, none⟩), Value.agg #[Value.int IntKind.i64 x, Value.int IntKind.i64 y, Value.int IntKind.u32 z]] [Tab b n A E RL] (fun v K => v = Value.tuple #[Value.agg #[Value.int IntKind.i64 e.d.1, Value.int IntKind.i64 e.d.2.1, Value.int IntKind.u32 e.d.2.2, Value.int IntKind.i64 e.num, Value.int IntKind.i64 e.h.1, Value.int IntKind.u32 e.h.2], Value.int IntKind.i64 0] ∧ K = [Tab b n A E RL]) := by
 refine hiS Tryz.func43 Tryz.ntmps43 fun g w0 R h0 => go [] <| nP 25 [iV x, iV y, uV z] h0 (fun r10 w11 h12 => ?_)
 refine nP 89 [iV 0, iV 0, uV 0, iV 0, iV 0, uV 0] h12 (fun r13 w14 h15 => ?_)
 have h16 := tk4 (sf3 (sf2 (sf2 (sf3 h15))))
 refine go [] <| cl1 Tryz.call29 (tvalid_ht b n A E RL) h16 fun w17 h18 => go [rd 3 0 2 0 3 h18] <| cl0 Tryz.call76 (cdesc_ok x y z (by omega) (by omega) (by omega)) h18 fun w19 h20 => go [] <| dw (fls [0, 1, 2, 3, 4, 5] (Tr.an2 6 (fls [7, 8, 9] (Tr.an 10 (Tr.an 11 (Tr.fl 12 Tr.nil)))) 10 (Tr.an 6 (fls [7, 8, 9] (Tr.an 11 (Tr.fl 12 Tr.nil)))))) h20 fun w21 h22 => ?_
 obtain ⟨s23, m24, p25, c26, E27, hM28, h29⟩ := tab_open h22
 have hRl_ := hM28.2
 refine go [rd 5 3 0 1 1 h29, rd 5 5 5 1 1 h29] ?_
 refine br2 ?_ ?_
 ·
  refine actG ?_
  refine act_law (d := 25) (.tuple #[.agg #[iV e.d.1, iV e.d.2.1, uV e.d.2.2, iV e.num, iV e.h.1, uV e.h.2], .bool true]) (by kernel_rfl) rfl (law_lookupOk (t := 68) (z := .agg #[iV 0, iV 0, uV 0, iV 0, iV 0, uV 0]) (m := (Operand.tmp 22)) (x := (Operand.tmp 24)) (kv := kI) (ve := vE) (by kernel_rfl) Tryz.underlying68 kyI (by kernel_rfl) y (by kernel_rfl) (by kernel_rfl) (j := 2) h29 rfl (.agg #[iV e.d.1, iV e.d.2.1, uV e.d.2.2, iV e.num, iV e.h.1, uV e.h.2]) true (by rw [hM28.1.2.2 y, hg_]; exact ⟨rfl, rfl⟩)) ?_
  refine ⟨kd [], nxG ?_⟩
  refine go [] <| nG (fun q_ => pV q_) 89 [iV 0, iV 0, uV 0, iV 0, iV 0, uV 0] h29 (fun r30 w31 h32 => ⟨kd [], ?_⟩)
  refine sG [(0, iV e.d.1), (1, iV e.d.2.1), (2, uV e.d.2.2), (3, iV e.num), (4, iV e.h.1), (5, uV e.h.2)] [iV e.d.1, iV e.d.2.1, uV e.d.2.2, iV e.num, iV e.h.1, uV e.h.2] h32 fun w33 h34 => ⟨kd [], ?_⟩
  refine go [rd 6 4 0 0 3 h34, rd 6 5 6 0 3 h34, .s 6 6] <| lwP (.bool false) (seq25_neq_t (x := (Operand.tmp 32)) (y := (Operand.tmp 33)) e.d.1 e.d.2.1 e.d.2.2 x y z (by kernel_rfl) (by kernel_rfl) (by kernel_rfl) ⟨(by omega), (by omega), (by omega)⟩ _) ?_
  have h35 := tk8 (sf7 (sf6 (sf6 (sf6 (sf6 (sf6 (sf7 (sf7 h34))))))))
  refine go [rd 8 0 0 0 6 h34] <| sP [(0, iV e.d.1), (1, iV e.d.2.1), (2, uV e.d.2.2), (3, iV e.num), (4, iV e.h.1), (5, uV e.h.2)] [iV e.d.1, iV e.d.2.1, uV e.d.2.2, iV e.num, iV e.h.1, uV e.h.2] h35 fun w36 h37 => go [] ?_
  have h39 : sat g w36 [Tab b n A E RL, Cl r13 [iV e.d.1, iV e.d.2.1, uV e.d.2.2, iV e.num, iV e.h.1, uV e.h.2] 89, Cl r30 [iV e.d.1, iV e.d.2.1, uV e.d.2.2, iV e.num, iV e.h.1, uV e.h.2] 89, Cl r10 [iV x, iV y, uV z] 25, R] := tab_close hM28.1 (by omega) (by first | rfl | omega) (tk8 (sf7 (sf7 (sf7 (sf7 (sf3 (sf3 (sf7 (sf7 h37)))))))))
  exact en (.tuple #[.agg #[iV e.d.1, iV e.d.2.1, uV e.d.2.2, iV e.num, iV e.h.1, uV e.h.2], iV 0]) [rd 0 0 0 0 6 h37] ⟨_, _, rfl, ⟨rfl, rfl⟩, (tk2 (sf1 (sf4 h39)))⟩
 refine nG (fun q_ => pV q_) 89 [iV 0, iV 0, uV 0, iV 0, iV 0, uV 0] h29 (fun r41 w42 h43 => ⟨kd [rd 0 5 6 1 1 h43, rd 0 3 1 1 1 h43], ?_⟩)
 refine actG ?_
 refine act_law (d := 25) (.tuple #[.agg #[iV e.d.1, iV e.d.2.1, uV e.d.2.2, iV e.num, iV e.h.1, uV e.h.2], .bool true]) (by kernel_rfl) rfl (law_lookupOk (t := 68) (z := .agg #[iV 0, iV 0, uV 0, iV 0, iV 0, uV 0]) (m := (Operand.tmp 22)) (x := (Operand.tmp 24)) (kv := kI) (ve := vE) (by kernel_rfl) Tryz.underlying68 kyI (by kernel_rfl) y (by kernel_rfl) (by kernel_rfl) (j := 3) h43 rfl (.agg #[iV e.d.1, iV e.d.2.1, uV e.d.2.2, iV e.num, iV e.h.1, uV e.h.2]) true (by rw [hM28.1.2.2 y, hg_]; exact ⟨rfl, rfl⟩)) ?_
 refine ⟨kd [], nxG ?_⟩
 refine go [] <| sG [(0, iV e.d.1), (1, iV e.d.2.1), (2, uV e.d.2.2), (3, iV e.num), (4, iV e.h.1), (5, uV e.h.2)] [iV e.d.1, iV e.d.2.1, uV e.d.2.2, iV e.num, iV e.h.1, uV e.h.2] h43 fun w44 h45 => ⟨kd [], ?_⟩
 refine go [rd 6 4 0 0 3 h45, rd 6 5 6 0 3 h45, .s 6 6] <| lwP (.bool false) (seq25_neq_t (x := (Operand.tmp 32)) (y := (Operand.tmp 33)) e.d.1 e.d.2.1 e.d.2.2 x y z (by kernel_rfl) (by kernel_rfl) (by kernel_rfl) ⟨(by omega), (by omega), (by omega)⟩ _) ?_
 have h46 := tk8 (sf7 (sf6 (sf6 (sf6 (sf6 (sf6 (sf7 (sf7 h45))))))))
 refine go [rd 8 0 0 0 6 h45] <| sP [(0, iV e.d.1), (1, iV e.d.2.1), (2, uV e.d.2.2), (3, iV e.num), (4, iV e.h.1), (5, uV e.h.2)] [iV e.d.1, iV e.d.2.1, uV e.d.2.2, iV e.num, iV e.h.1, uV e.h.2] h46 fun w47 h48 => go [] ?_
 have h50 : sat g w47 [Tab b n A E RL, Cl r13 [iV e.d.1, iV e.d.2.1, uV e.d.2.2, iV e.num, iV e.h.1, uV e.h.2] 89, Cl r41 [iV e.d.1, iV e.d.2.1, uV e.d.2.2, iV e.num, iV e.h.1, uV e.h.2] 89, Cl r10 [iV x, iV y, uV z] 25, R] := tab_close hM28.1 (by omega) (by first | rfl | omega) (tk8 (sf7 (sf7 (sf7 (sf7 (sf3 (sf3 (sf7 (sf7 h48)))))))))
 exact en (.tuple #[.agg #[iV e.d.1, iV e.d.2.1, uV e.d.2.2, iV e.num, iV e.h.1, uV e.h.2], iV 0]) [rd 0 0 0 0 6 h48] ⟨_, _, rfl, ⟨rfl, rfl⟩, (tk2 (sf1 (sf4 h50)))⟩

set_option maxHeartbeats 4000000 in
theorem tfind_diff (b n : Nat) (A : List Sl2) (E : Tm) (RL : List Rs) (x y z : Int) (e : Ety) (hz0 : 0 ≤ z) (hz1 : z ≤ 4294967295) (ho : 1 ≤ x ∧ x ≤ 3 ∧ 0 ≤ y ∧ y ≤ 255 ∧ 1 ≤ z) (hg_ : gget E y = some e) (hd_ : ¬ (e.d.1 = x ∧ e.d.2.1 = y ∧ e.d.2.2 = z)) : HT Tryz.prog 43 [Value.pointer (some ⟨b, 0, none⟩), Value.agg #[Value.int IntKind.i64 x, Value.int IntKind.i64 y, Value.int IntKind.u32 z]] [Tab b n A E RL] (fun v K => v = Value.tuple #[Value.agg #[Value.int IntKind.i64 0, Value.int IntKind.i64 0, Value.int IntKind.u32 0, Value.int IntKind.i64 0, Value.int IntKind.i64 0, Value.int IntKind.u32 0], Value.int IntKind.i64 7] ∧ K = [Tab b n A E RL]) := by
 refine hiS Tryz.func43 Tryz.ntmps43 fun g w0 R h0 => go [] <| nP 25 [iV x, iV y, uV z] h0 (fun r10 w11 h12 => ?_)
 refine nP 89 [iV 0, iV 0, uV 0, iV 0, iV 0, uV 0] h12 (fun r13 w14 h15 => ?_)
 have h16 := tk4 (sf3 (sf2 (sf2 (sf3 h15))))
 refine go [] <| cl1 Tryz.call29 (tvalid_ht b n A E RL) h16 fun w17 h18 => go [rd 3 0 2 0 3 h18] <| cl0 Tryz.call76 (cdesc_ok x y z (by omega) (by omega) (by omega)) h18 fun w19 h20 => go [] <| dw (fls [0, 1, 2, 3, 4, 5] (Tr.an2 6 (fls [7, 8, 9] (Tr.an 10 (Tr.an 11 (Tr.fl 12 Tr.nil)))) 10 (Tr.an 6 (fls [7, 8, 9] (Tr.an 11 (Tr.fl 12 Tr.nil)))))) h20 fun w21 h22 => ?_
 obtain ⟨s23, m24, p25, c26, E27, hM28, h29⟩ := tab_open h22
 have hRl_ := hM28.2
 refine go [rd 5 3 0 1 1 h29, rd 5 5 5 1 1 h29] ?_
 refine br2 ?_ ?_
 ·
  refine actG ?_
  refine act_law (d := 25) (.tuple #[.agg #[iV e.d.1, iV e.d.2.1, uV e.d.2.2, iV e.num, iV e.h.1, uV e.h.2], .bool true]) (by kernel_rfl) rfl (law_lookupOk (t := 68) (z := .agg #[iV 0, iV 0, uV 0, iV 0, iV 0, uV 0]) (m := (Operand.tmp 22)) (x := (Operand.tmp 24)) (kv := kI) (ve := vE) (by kernel_rfl) Tryz.underlying68 kyI (by kernel_rfl) y (by kernel_rfl) (by kernel_rfl) (j := 2) h29 rfl (.agg #[iV e.d.1, iV e.d.2.1, uV e.d.2.2, iV e.num, iV e.h.1, uV e.h.2]) true (by rw [hM28.1.2.2 y, hg_]; exact ⟨rfl, rfl⟩)) ?_
  refine ⟨kd [], nxG ?_⟩
  refine go [] <| nG (fun q_ => pV q_) 89 [iV 0, iV 0, uV 0, iV 0, iV 0, uV 0] h29 (fun r30 w31 h32 => ⟨kd [], ?_⟩)
  refine sG [(0, iV e.d.1), (1, iV e.d.2.1), (2, uV e.d.2.2), (3, iV e.num), (4, iV e.h.1), (5, uV e.h.2)] [iV e.d.1, iV e.d.2.1, uV e.d.2.2, iV e.num, iV e.h.1, uV e.h.2] h32 fun w33 h34 => ⟨kd [], ?_⟩
  refine go [rd 6 4 0 0 3 h34, rd 6 5 6 0 3 h34, .s 6 6] ?_
  by_cases c35 : e.d.1 = x
  ·
   by_cases c36 : e.d.2.1 = y
   ·
    refine lwP (.bool true) (seq25_neq_f (x := (Operand.tmp 32)) (y := (Operand.tmp 33)) e.d.1 e.d.2.1 e.d.2.2 x y z (by kernel_rfl) (by kernel_rfl) (by kernel_rfl) (by omega) _) ?_
    have h37 := tk8 (sf7 (sf6 (sf6 (sf6 (sf6 (sf6 (sf7 (sf7 h34))))))))
    refine go [] <| sP [(0, iV 0), (1, iV 0), (2, uV 0), (3, iV 0), (4, iV 0), (5, uV 0)] [iV 0, iV 0, uV 0, iV 0, iV 0, uV 0] h37 fun w38 h39 => go [] ?_
    have h41 : sat g w38 [Tab b n A E RL, Cl r13 [iV 0, iV 0, uV 0, iV 0, iV 0, uV 0] 89, Cl r30 [iV e.d.1, iV e.d.2.1, uV e.d.2.2, iV e.num, iV e.h.1, uV e.h.2] 89, Cl r10 [iV x, iV y, uV z] 25, R] := tab_close hM28.1 (by omega) (by first | rfl | omega) (tk8 (sf7 (sf7 (sf7 (sf7 (sf3 (sf3 (sf7 (sf7 h39)))))))))
    exact en (.tuple #[.agg #[iV 0, iV 0, uV 0, iV 0, iV 0, uV 0], iV 7]) [rd 0 0 0 0 6 h39] ⟨_, _, rfl, ⟨rfl, rfl⟩, (tk2 (sf1 (sf4 h41)))⟩
   refine lwP (.bool true) (seq25_neq_f (x := (Operand.tmp 32)) (y := (Operand.tmp 33)) e.d.1 e.d.2.1 e.d.2.2 x y z (by kernel_rfl) (by kernel_rfl) (by kernel_rfl) (by omega) _) ?_
   have h43 := tk8 (sf7 (sf6 (sf6 (sf6 (sf6 (sf6 (sf7 (sf7 h34))))))))
   refine go [] <| sP [(0, iV 0), (1, iV 0), (2, uV 0), (3, iV 0), (4, iV 0), (5, uV 0)] [iV 0, iV 0, uV 0, iV 0, iV 0, uV 0] h43 fun w44 h45 => go [] ?_
   have h47 : sat g w44 [Tab b n A E RL, Cl r13 [iV 0, iV 0, uV 0, iV 0, iV 0, uV 0] 89, Cl r30 [iV e.d.1, iV e.d.2.1, uV e.d.2.2, iV e.num, iV e.h.1, uV e.h.2] 89, Cl r10 [iV x, iV y, uV z] 25, R] := tab_close hM28.1 (by omega) (by first | rfl | omega) (tk8 (sf7 (sf7 (sf7 (sf7 (sf3 (sf3 (sf7 (sf7 h45)))))))))
   exact en (.tuple #[.agg #[iV 0, iV 0, uV 0, iV 0, iV 0, uV 0], iV 7]) [rd 0 0 0 0 6 h45] ⟨_, _, rfl, ⟨rfl, rfl⟩, (tk2 (sf1 (sf4 h47)))⟩
  refine lwP (.bool true) (seq25_neq_f (x := (Operand.tmp 32)) (y := (Operand.tmp 33)) e.d.1 e.d.2.1 e.d.2.2 x y z (by kernel_rfl) (by kernel_rfl) (by kernel_rfl) (by omega) _) ?_
  have h49 := tk8 (sf7 (sf6 (sf6 (sf6 (sf6 (sf6 (sf7 (sf7 h34))))))))
  refine go [] <| sP [(0, iV 0), (1, iV 0), (2, uV 0), (3, iV 0), (4, iV 0), (5, uV 0)] [iV 0, iV 0, uV 0, iV 0, iV 0, uV 0] h49 fun w50 h51 => go [] ?_
  have h53 : sat g w50 [Tab b n A E RL, Cl r13 [iV 0, iV 0, uV 0, iV 0, iV 0, uV 0] 89, Cl r30 [iV e.d.1, iV e.d.2.1, uV e.d.2.2, iV e.num, iV e.h.1, uV e.h.2] 89, Cl r10 [iV x, iV y, uV z] 25, R] := tab_close hM28.1 (by omega) (by first | rfl | omega) (tk8 (sf7 (sf7 (sf7 (sf7 (sf3 (sf3 (sf7 (sf7 h51)))))))))
  exact en (.tuple #[.agg #[iV 0, iV 0, uV 0, iV 0, iV 0, uV 0], iV 7]) [rd 0 0 0 0 6 h51] ⟨_, _, rfl, ⟨rfl, rfl⟩, (tk2 (sf1 (sf4 h53)))⟩
 refine nG (fun q_ => pV q_) 89 [iV 0, iV 0, uV 0, iV 0, iV 0, uV 0] h29 (fun r55 w56 h57 => ⟨kd [rd 0 5 6 1 1 h57, rd 0 3 1 1 1 h57], ?_⟩)
 refine actG ?_
 refine act_law (d := 25) (.tuple #[.agg #[iV e.d.1, iV e.d.2.1, uV e.d.2.2, iV e.num, iV e.h.1, uV e.h.2], .bool true]) (by kernel_rfl) rfl (law_lookupOk (t := 68) (z := .agg #[iV 0, iV 0, uV 0, iV 0, iV 0, uV 0]) (m := (Operand.tmp 22)) (x := (Operand.tmp 24)) (kv := kI) (ve := vE) (by kernel_rfl) Tryz.underlying68 kyI (by kernel_rfl) y (by kernel_rfl) (by kernel_rfl) (j := 3) h57 rfl (.agg #[iV e.d.1, iV e.d.2.1, uV e.d.2.2, iV e.num, iV e.h.1, uV e.h.2]) true (by rw [hM28.1.2.2 y, hg_]; exact ⟨rfl, rfl⟩)) ?_
 refine ⟨kd [], nxG ?_⟩
 refine go [] <| sG [(0, iV e.d.1), (1, iV e.d.2.1), (2, uV e.d.2.2), (3, iV e.num), (4, iV e.h.1), (5, uV e.h.2)] [iV e.d.1, iV e.d.2.1, uV e.d.2.2, iV e.num, iV e.h.1, uV e.h.2] h57 fun w58 h59 => ⟨kd [], ?_⟩
 refine go [rd 6 4 0 0 3 h59, rd 6 5 6 0 3 h59, .s 6 6] ?_
 by_cases c60 : e.d.1 = x
 ·
  by_cases c61 : e.d.2.1 = y
  ·
   refine lwP (.bool true) (seq25_neq_f (x := (Operand.tmp 32)) (y := (Operand.tmp 33)) e.d.1 e.d.2.1 e.d.2.2 x y z (by kernel_rfl) (by kernel_rfl) (by kernel_rfl) (by omega) _) ?_
   have h62 := tk8 (sf7 (sf6 (sf6 (sf6 (sf6 (sf6 (sf7 (sf7 h59))))))))
   refine go [] <| sP [(0, iV 0), (1, iV 0), (2, uV 0), (3, iV 0), (4, iV 0), (5, uV 0)] [iV 0, iV 0, uV 0, iV 0, iV 0, uV 0] h62 fun w63 h64 => go [] ?_
   have h66 : sat g w63 [Tab b n A E RL, Cl r13 [iV 0, iV 0, uV 0, iV 0, iV 0, uV 0] 89, Cl r55 [iV e.d.1, iV e.d.2.1, uV e.d.2.2, iV e.num, iV e.h.1, uV e.h.2] 89, Cl r10 [iV x, iV y, uV z] 25, R] := tab_close hM28.1 (by omega) (by first | rfl | omega) (tk8 (sf7 (sf7 (sf7 (sf7 (sf3 (sf3 (sf7 (sf7 h64)))))))))
   exact en (.tuple #[.agg #[iV 0, iV 0, uV 0, iV 0, iV 0, uV 0], iV 7]) [rd 0 0 0 0 6 h64] ⟨_, _, rfl, ⟨rfl, rfl⟩, (tk2 (sf1 (sf4 h66)))⟩
  refine lwP (.bool true) (seq25_neq_f (x := (Operand.tmp 32)) (y := (Operand.tmp 33)) e.d.1 e.d.2.1 e.d.2.2 x y z (by kernel_rfl) (by kernel_rfl) (by kernel_rfl) (by omega) _) ?_
  have h68 := tk8 (sf7 (sf6 (sf6 (sf6 (sf6 (sf6 (sf7 (sf7 h59))))))))
  refine go [] <| sP [(0, iV 0), (1, iV 0), (2, uV 0), (3, iV 0), (4, iV 0), (5, uV 0)] [iV 0, iV 0, uV 0, iV 0, iV 0, uV 0] h68 fun w69 h70 => go [] ?_
  have h72 : sat g w69 [Tab b n A E RL, Cl r13 [iV 0, iV 0, uV 0, iV 0, iV 0, uV 0] 89, Cl r55 [iV e.d.1, iV e.d.2.1, uV e.d.2.2, iV e.num, iV e.h.1, uV e.h.2] 89, Cl r10 [iV x, iV y, uV z] 25, R] := tab_close hM28.1 (by omega) (by first | rfl | omega) (tk8 (sf7 (sf7 (sf7 (sf7 (sf3 (sf3 (sf7 (sf7 h70)))))))))
  exact en (.tuple #[.agg #[iV 0, iV 0, uV 0, iV 0, iV 0, uV 0], iV 7]) [rd 0 0 0 0 6 h70] ⟨_, _, rfl, ⟨rfl, rfl⟩, (tk2 (sf1 (sf4 h72)))⟩
 refine lwP (.bool true) (seq25_neq_f (x := (Operand.tmp 32)) (y := (Operand.tmp 33)) e.d.1 e.d.2.1 e.d.2.2 x y z (by kernel_rfl) (by kernel_rfl) (by kernel_rfl) (by omega) _) ?_
 have h74 := tk8 (sf7 (sf6 (sf6 (sf6 (sf6 (sf6 (sf7 (sf7 h59))))))))
 refine go [] <| sP [(0, iV 0), (1, iV 0), (2, uV 0), (3, iV 0), (4, iV 0), (5, uV 0)] [iV 0, iV 0, uV 0, iV 0, iV 0, uV 0] h74 fun w75 h76 => go [] ?_
 have h78 : sat g w75 [Tab b n A E RL, Cl r13 [iV 0, iV 0, uV 0, iV 0, iV 0, uV 0] 89, Cl r55 [iV e.d.1, iV e.d.2.1, uV e.d.2.2, iV e.num, iV e.h.1, uV e.h.2] 89, Cl r10 [iV x, iV y, uV z] 25, R] := tab_close hM28.1 (by omega) (by first | rfl | omega) (tk8 (sf7 (sf7 (sf7 (sf7 (sf3 (sf3 (sf7 (sf7 h76)))))))))
 exact en (.tuple #[.agg #[iV 0, iV 0, uV 0, iV 0, iV 0, uV 0], iV 7]) [rd 0 0 0 0 6 h76] ⟨_, _, rfl, ⟨rfl, rfl⟩, (tk2 (sf1 (sf4 h78)))⟩

set_option maxHeartbeats 4000000 in
theorem tlen_n  : HT Tryz.prog 26 [Value.pointer none] [] (fun v K => v = Value.int IntKind.i64 0 ∧ K = []) := by
 refine hiS Tryz.func26 Tryz.ntmps26 fun g w0 R h0 => go [] <| cl0 Tryz.call29 (tvalid_n) h0 fun w10 h11 => go [] ?_
 exact en (iV 0) [] ⟨_, _, rfl, ⟨rfl, rfl⟩, h11⟩

set_option maxHeartbeats 4000000 in
theorem troom_n  : HT Tryz.prog 62 [Value.pointer none] [] (fun v K => v = Value.int IntKind.i64 0 ∧ K = []) := by
 refine hiS Tryz.func62 Tryz.ntmps62 fun g w0 R h0 => go [] <| cl0 Tryz.call29 (tvalid_n) h0 fun w10 h11 => go [] ?_
 exact en (iV 0) [] ⟨_, _, rfl, ⟨rfl, rfl⟩, h11⟩

set_option maxHeartbeats 4000000 in
theorem tcheck_n (v : Int) : HT Tryz.prog 79 [Value.pointer none, Value.int IntKind.i64 v] [] (fun v K => v = Value.int IntKind.i64 1 ∧ K = []) := by
 refine hiS Tryz.func79 Tryz.ntmps79 fun g w0 R h0 => go [] <| cl0 Tryz.call29 (tvalid_n) h0 fun w10 h11 => go [] ?_
 exact en (iV 1) [] ⟨_, _, rfl, ⟨rfl, rfl⟩, h11⟩

set_option maxHeartbeats 4000000 in
theorem tlen_ht (b n : Nat) (A : List Sl2) (E : Tm) (RL : List Rs) : HT Tryz.prog 26 [Value.pointer (some ⟨b, 0, none⟩)] [Tab b n A E RL] (fun v K => v = Value.int IntKind.i64 (((RL.length : Nat) : Int)) ∧ K = [Tab b n A E RL]) := by
 refine hiS Tryz.func26 Tryz.ntmps26 fun g w0 R h0 => go [] <| cl1 Tryz.call29 (tvalid_ht b n A E RL) h0 fun w10 h11 => ?_
 obtain ⟨s12, m13, p14, c15, E16, hM17, h18⟩ := tab_open h11
 have hRl_ := hM17.2
 refine go [rd 3 3 0 2 1 h18] ?_
 have h19 : sat g w10 [Tab b n A E RL, R] := tab_close hM17.1 (by omega) (by first | rfl | omega) h18
 exact en (iV (((RL.length : Nat) : Int))) [] ⟨_, _, rfl, ⟨rfl, rfl⟩, h19⟩

set_option maxHeartbeats 4000000 in
theorem troom_ht (b n : Nat) (A : List Sl2) (E : Tm) (RL : List Rs) : HT Tryz.prog 62 [Value.pointer (some ⟨b, 0, none⟩)] [Tab b n A E RL] (fun v K => v = Value.int IntKind.i64 ((((inS 0 A 0).length : Nat) : Int)) ∧ K = [Tab b n A E RL]) := by
 refine hiS Tryz.func62 Tryz.ntmps62 fun g w0 R h0 => go [] <| cl1 Tryz.call29 (tvalid_ht b n A E RL) h0 fun w10 h11 => ?_
 obtain ⟨s12, m13, p14, c15, E16, hM17, h18⟩ := tab_open h11
 have hRl_ := hM17.2
 have h19 := tk5 (sf4 (sf3 (sf4 (sf4 (sf4 h18)))))
 refine go [rd 3 3 0 0 1 h18] <| cl1 Tryz.call35 (sfree_ht s12 n A) h19 fun w20 h21 => go [] ?_
 have h23 : sat g w20 [Tab b n A E RL, R] := tab_close hM17.1 (by omega) (by first | rfl | omega) (tk5 (sf4 (sf3 (sf4 (sf4 (sf4 h21))))))
 exact en (iV ((((inS 0 A 0).length : Nat) : Int))) [] ⟨_, _, rfl, ⟨rfl, rfl⟩, h23⟩

set_option maxHeartbeats 4000000 in
theorem tcheck_ok (b n : Nat) (A : List Sl2) (E : Tm) (RL : List Rs) (v : Int) (h : 1 ≤ v ∧ v ≤ (RL.length : Int)) : HT Tryz.prog 79 [Value.pointer (some ⟨b, 0, none⟩), Value.int IntKind.i64 v] [Tab b n A E RL] (fun v K => v = Value.int IntKind.i64 0 ∧ K = [Tab b n A E RL]) := by
 refine hiS Tryz.func79 Tryz.ntmps79 fun g w0 R h0 => go [] <| cl1 Tryz.call29 (tvalid_ht b n A E RL) h0 fun w10 h11 => ?_
 obtain ⟨s12, m13, p14, c15, E16, hM17, h18⟩ := tab_open h11
 have hRl_ := hM17.2
 refine go [.v 3 1 (oF (v < 1)), rd 3 7 0 2 1 h18, .v 3 9 (oF (v > ((RL.length : Nat) : Int)))] ?_
 have h19 : sat g w10 [Tab b n A E RL, R] := tab_close hM17.1 (by omega) (by first | rfl | omega) h18
 exact en (iV 0) [] ⟨_, _, rfl, ⟨rfl, rfl⟩, h19⟩

set_option maxHeartbeats 4000000 in
theorem tcheck_no (b n : Nat) (A : List Sl2) (E : Tm) (RL : List Rs) (v : Int) (h : v < 1 ∨ (RL.length : Int) < v) : HT Tryz.prog 79 [Value.pointer (some ⟨b, 0, none⟩), Value.int IntKind.i64 v] [Tab b n A E RL] (fun v K => v = Value.int IntKind.i64 3 ∧ K = [Tab b n A E RL]) := by
 refine hiS Tryz.func79 Tryz.ntmps79 fun g w0 R h0 => go [] <| cl1 Tryz.call29 (tvalid_ht b n A E RL) h0 fun w10 h11 => go [.s 3 1] ?_
 by_cases c12 : v < 1
 ·
  refine go [.v 3 1 (oT (v < 1))] ?_
  exact en (iV 3) [] ⟨_, _, rfl, ⟨rfl, rfl⟩, h11⟩
 obtain ⟨s13, m14, p15, c16, E17, hM18, h19⟩ := tab_open h11
 have hRl_ := hM18.2
 refine go [.v 3 1 (oF (v < 1)), rd 3 7 0 2 1 h19, .v 3 9 (oT (v > ((RL.length : Nat) : Int)))] ?_
 have h20 : sat g w10 [Tab b n A E RL, R] := tab_close hM18.1 (by omega) (by first | rfl | omega) h19
 exact en (iV 3) [] ⟨_, _, rfl, ⟨rfl, rfl⟩, h20⟩

end Go.Proofs.YtjjpmehiolejgaaGreat

/- Walks, printed by my generator ../tab/gen11.py. -/
namespace Go.Proofs.YtjjpmehiolejgaaGreat
theorem take_n (b n : Nat) (A : List Sl2) (h : (inS 0 A 0).length = 0) : HT Tryz.prog 73 [Value.pointer (some ⟨b, 0, none⟩)] [Tb b n A] (fun v K => v = Value.tuple #[Value.agg #[Value.int .i64 0, Value.int .u32 0], Value.int .i64 4] ∧ K = [Tb b n A]) :=
  (take_ht b n A).mono fun v K hP => by
    rw [(take_none h).1, (take_none h).2] at hP
    exact hP
theorem take_j (b n : Nat) (A : List Sl2) (j : Nat) (gj : Int) (h : (inS 0 A 0)[0]? = some (j, gj)) : HT Tryz.prog 73 [Value.pointer (some ⟨b, 0, none⟩)] [Tb b n A] (fun v K => v = Value.tuple #[Value.agg #[Value.int .i64 (j : Int), Value.int .u32 gj], Value.int .i64 0] ∧ K = [Tb b n (A.set j (1, gj))]) :=
  (take_ht b n A).mono fun v K hP => by
    have hl := (List.getElem?_eq_some_iff.1 h).1
    rw [(take_some hl).1, (take_some hl).2, getD_some h] at hP
    exact hP
set_option maxHeartbeats 4000000 in
theorem tat_n (vn : Int) : HT Tryz.prog 59 [Value.pointer none, Value.int IntKind.i64 vn] [] (fun v K => v = Value.tuple #[Value.agg #[Value.int IntKind.i64 0, Value.int IntKind.i64 0, Value.int IntKind.u32 0], Value.bool false] ∧ K = []) := by
 refine hiS Tryz.func59 Tryz.ntmps59 fun g w0 R h0 => go [] <| nP 25 [iV 0, iV 0, uV 0] h0 (fun r10 w11 h12 => ?_)
 refine go [] <| cl0 Tryz.call29 (tvalid_n) h12 fun w13 h14 => go [] <| sP [(0, iV 0), (1, iV 0), (2, uV 0)] [iV 0, iV 0, uV 0] h14 fun w15 h16 => go [] ?_
 exact en (.tuple #[.agg #[iV 0, iV 0, uV 0], .bool false]) [rd 0 0 0 0 3 h16] ⟨_, _, rfl, ⟨rfl, rfl⟩, (tk1 (sf1 h16))⟩

set_option maxHeartbeats 4000000 in
theorem tat_none (b n : Nat) (A : List Sl2) (E : Tm) (RL : List Rs) (vn : Int) (hg_ : gget E vn = none) : HT Tryz.prog 59 [Value.pointer (some ⟨b, 0, none⟩), Value.int IntKind.i64 vn] [Tab b n A E RL] (fun v K => v = Value.tuple #[Value.agg #[Value.int IntKind.i64 0, Value.int IntKind.i64 0, Value.int IntKind.u32 0], Value.bool false] ∧ K = [Tab b n A E RL]) := by
 refine hiS Tryz.func59 Tryz.ntmps59 fun g w0 R h0 => go [] <| nP 25 [iV 0, iV 0, uV 0] h0 (fun r10 w11 h12 => ?_)
 have h13 := tk3 (sf2 (sf1 (sf2 h12)))
 refine go [] <| cl1 Tryz.call29 (tvalid_ht b n A E RL) h13 fun w14 h15 => ?_
 obtain ⟨s16, m17, p18, c19, E20, hM21, h22⟩ := tab_open h15
 have hRl_ := hM21.2
 refine go [rd 3 3 0 1 1 h22] ?_
 refine actG ?_
 refine act_law (d := 18) (.tuple #[.agg #[iV 0, iV 0, uV 0, iV 0, iV 0, uV 0], .bool false]) (by kernel_rfl) rfl (law_lookupOk (t := 68) (z := .agg #[iV 0, iV 0, uV 0, iV 0, iV 0, uV 0]) (m := (Operand.tmp 16)) (x := (Operand.tmp 17)) (kv := kI) (ve := vE) (by kernel_rfl) Tryz.underlying68 kyI (by kernel_rfl) vn (by kernel_rfl) (by kernel_rfl) (j := 2) h22 rfl (.agg #[iV 0, iV 0, uV 0, iV 0, iV 0, uV 0]) false (by rw [hM21.1.2.2 vn, hg_]; exact ⟨rfl, rfl⟩)) ?_
 refine nxA <| go [] <| nP 89 [iV 0, iV 0, uV 0, iV 0, iV 0, uV 0] h22 (fun r23 w24 h25 => ?_)
 refine sP [(0, iV 0), (1, iV 0), (2, uV 0), (3, iV 0), (4, iV 0), (5, uV 0)] [iV 0, iV 0, uV 0, iV 0, iV 0, uV 0] h25 fun w26 h27 => ?_
 have h28 := tk7 (sf6 (sf5 (sf5 (sf5 (sf5 (sf5 (sf6 h27)))))))
 refine go [rd 4 1 0 0 3 h27] <| sP [(0, iV 0), (1, iV 0), (2, uV 0)] [iV 0, iV 0, uV 0] h28 fun w29 h30 => go [] ?_
 have h32 : sat g w29 [Tab b n A E RL, Cl r10 [iV 0, iV 0, uV 0] 25, Cl r23 [iV 0, iV 0, uV 0, iV 0, iV 0, uV 0] 89, R] := tab_close hM21.1 (by omega) (by first | rfl | omega) (tk7 (sf6 (sf6 (sf6 (sf6 (sf2 (sf2 (sf6 h30))))))))
 exact en (.tuple #[.agg #[iV 0, iV 0, uV 0], .bool false]) [rd 0 0 0 0 3 h30] ⟨_, _, rfl, ⟨rfl, rfl⟩, (tk2 (sf1 (sf3 h32)))⟩

set_option maxHeartbeats 4000000 in
theorem tat_ok (b n : Nat) (A : List Sl2) (E : Tm) (RL : List Rs) (vn : Int) (e : Ety) (hg_ : gget E vn = some e) : HT Tryz.prog 59 [Value.pointer (some ⟨b, 0, none⟩), Value.int IntKind.i64 vn] [Tab b n A E RL] (fun v K => v = Value.tuple #[Value.agg #[Value.int IntKind.i64 e.d.1, Value.int IntKind.i64 e.d.2.1, Value.int IntKind.u32 e.d.2.2], Value.bool true] ∧ K = [Tab b n A E RL]) := by
 refine hiS Tryz.func59 Tryz.ntmps59 fun g w0 R h0 => go [] <| nP 25 [iV 0, iV 0, uV 0] h0 (fun r10 w11 h12 => ?_)
 have h13 := tk3 (sf2 (sf1 (sf2 h12)))
 refine go [] <| cl1 Tryz.call29 (tvalid_ht b n A E RL) h13 fun w14 h15 => ?_
 obtain ⟨s16, m17, p18, c19, E20, hM21, h22⟩ := tab_open h15
 have hRl_ := hM21.2
 refine go [rd 3 3 0 1 1 h22] ?_
 refine actG ?_
 refine act_law (d := 18) (.tuple #[.agg #[iV e.d.1, iV e.d.2.1, uV e.d.2.2, iV e.num, iV e.h.1, uV e.h.2], .bool true]) (by kernel_rfl) rfl (law_lookupOk (t := 68) (z := .agg #[iV 0, iV 0, uV 0, iV 0, iV 0, uV 0]) (m := (Operand.tmp 16)) (x := (Operand.tmp 17)) (kv := kI) (ve := vE) (by kernel_rfl) Tryz.underlying68 kyI (by kernel_rfl) vn (by kernel_rfl) (by kernel_rfl) (j := 2) h22 rfl (.agg #[iV e.d.1, iV e.d.2.1, uV e.d.2.2, iV e.num, iV e.h.1, uV e.h.2]) true (by rw [hM21.1.2.2 vn, hg_]; exact ⟨rfl, rfl⟩)) ?_
 refine nxA <| go [] <| nP 89 [iV 0, iV 0, uV 0, iV 0, iV 0, uV 0] h22 (fun r23 w24 h25 => ?_)
 refine sP [(0, iV e.d.1), (1, iV e.d.2.1), (2, uV e.d.2.2), (3, iV e.num), (4, iV e.h.1), (5, uV e.h.2)] [iV e.d.1, iV e.d.2.1, uV e.d.2.2, iV e.num, iV e.h.1, uV e.h.2] h25 fun w26 h27 => ?_
 have h28 := tk7 (sf6 (sf5 (sf5 (sf5 (sf5 (sf5 (sf6 h27)))))))
 refine go [rd 4 1 0 0 3 h27] <| sP [(0, iV e.d.1), (1, iV e.d.2.1), (2, uV e.d.2.2)] [iV e.d.1, iV e.d.2.1, uV e.d.2.2] h28 fun w29 h30 => go [] ?_
 have h32 : sat g w29 [Tab b n A E RL, Cl r10 [iV e.d.1, iV e.d.2.1, uV e.d.2.2] 25, Cl r23 [iV e.d.1, iV e.d.2.1, uV e.d.2.2, iV e.num, iV e.h.1, uV e.h.2] 89, R] := tab_close hM21.1 (by omega) (by first | rfl | omega) (tk7 (sf6 (sf6 (sf6 (sf6 (sf2 (sf2 (sf6 h30))))))))
 exact en (.tuple #[.agg #[iV e.d.1, iV e.d.2.1, uV e.d.2.2], .bool true]) [rd 0 0 0 0 3 h30] ⟨_, _, rfl, ⟨rfl, rfl⟩, (tk2 (sf1 (sf3 h32)))⟩

set_option maxHeartbeats 4000000 in
theorem tget_n (vn : Int) : HT Tryz.prog 49 [Value.pointer none, Value.int IntKind.i64 vn] [] (fun v K => v = Value.tuple #[Value.agg #[Value.int IntKind.i64 0, Value.int IntKind.i64 0, Value.int IntKind.u32 0, Value.int IntKind.i64 0, Value.int IntKind.i64 0, Value.int IntKind.i64 0, Value.int IntKind.i64 0, Value.string (St [])], Value.int IntKind.i64 1] ∧ K = []) := by
 refine hiS Tryz.func49 Tryz.ntmps49 fun g w0 R h0 => go [] <| nP 40 [iV 0, iV 0, uV 0, iV 0, iV 0, iV 0, iV 0, .string (St [])] h0 (fun r10 w11 h12 => ?_)
 refine go [] <| cl0 Tryz.call79 (tcheck_n vn) h12 fun w13 h14 => go [] <| sP [(0, iV 0), (1, iV 0), (2, uV 0), (3, iV 0), (4, iV 0), (5, iV 0), (6, iV 0), (7, .string (St []))] [iV 0, iV 0, uV 0, iV 0, iV 0, iV 0, iV 0, .string (St [])] h14 fun w15 h16 => go [] ?_
 exact en (.tuple #[.agg #[iV 0, iV 0, uV 0, iV 0, iV 0, iV 0, iV 0, .string (St [])], iV 1]) [rd 0 0 0 0 8 h16] ⟨_, _, rfl, ⟨rfl, rfl⟩, (tk1 (sf1 h16))⟩

set_option maxHeartbeats 4000000 in
theorem tget_no (b n : Nat) (A : List Sl2) (E : Tm) (RL : List Rs) (vn : Int) (h : vn < 1 ∨ (RL.length : Int) < vn) : HT Tryz.prog 49 [Value.pointer (some ⟨b, 0, none⟩), Value.int IntKind.i64 vn] [Tab b n A E RL] (fun v K => v = Value.tuple #[Value.agg #[Value.int IntKind.i64 0, Value.int IntKind.i64 0, Value.int IntKind.u32 0, Value.int IntKind.i64 0, Value.int IntKind.i64 0, Value.int IntKind.i64 0, Value.int IntKind.i64 0, Value.string (St [])], Value.int IntKind.i64 3] ∧ K = [Tab b n A E RL]) := by
 refine hiS Tryz.func49 Tryz.ntmps49 fun g w0 R h0 => go [] <| nP 40 [iV 0, iV 0, uV 0, iV 0, iV 0, iV 0, iV 0, .string (St [])] h0 (fun r10 w11 h12 => ?_)
 refine go [] ?_
 by_cases c13 : 1 ≤ vn
 ·
  refine cl1 Tryz.call79 (tcheck_no b n A E RL vn (by omega)) (tk3 (sf2 (sf1 (sf2 h12)))) fun w15 h16 => ?_
  have h17 := tk3 (sf2 (sf1 (sf2 h16)))
  refine go [] <| sP [(0, iV 0), (1, iV 0), (2, uV 0), (3, iV 0), (4, iV 0), (5, iV 0), (6, iV 0), (7, .string (St []))] [iV 0, iV 0, uV 0, iV 0, iV 0, iV 0, iV 0, .string (St [])] h17 fun w18 h19 => go [] ?_
  exact en (.tuple #[.agg #[iV 0, iV 0, uV 0, iV 0, iV 0, iV 0, iV 0, .string (St [])], iV 3]) [rd 0 0 0 0 8 h19] ⟨_, _, rfl, ⟨rfl, rfl⟩, (tk2 (sf1 (sf2 (tk3 (sf2 (sf1 (sf2 h19)))))))⟩
 refine cl1 Tryz.call79 (tcheck_no b n A E RL vn (by omega)) (tk3 (sf2 (sf1 (sf2 h12)))) fun w23 h24 => ?_
 have h25 := tk3 (sf2 (sf1 (sf2 h24)))
 refine go [] <| sP [(0, iV 0), (1, iV 0), (2, uV 0), (3, iV 0), (4, iV 0), (5, iV 0), (6, iV 0), (7, .string (St []))] [iV 0, iV 0, uV 0, iV 0, iV 0, iV 0, iV 0, .string (St [])] h25 fun w26 h27 => go [] ?_
 exact en (.tuple #[.agg #[iV 0, iV 0, uV 0, iV 0, iV 0, iV 0, iV 0, .string (St [])], iV 3]) [rd 0 0 0 0 8 h27] ⟨_, _, rfl, ⟨rfl, rfl⟩, (tk2 (sf1 (sf2 (tk3 (sf2 (sf1 (sf2 h27)))))))⟩

set_option maxHeartbeats 4000000 in
theorem tget_ok (b n : Nat) (A : List Sl2) (E : Tm) (RL : List Rs) (vn : Int) (q : Nat) (r : Rs) (hr : RL[q]? = some r) (hv : vn = (q : Int) + 1) : HT Tryz.prog 49 [Value.pointer (some ⟨b, 0, none⟩), Value.int IntKind.i64 vn] [Tab b n A E RL] (fun v K => v = Value.tuple #[Value.agg #[Value.int IntKind.i64 r.out.1, Value.int IntKind.i64 r.out.2.1, Value.int IntKind.u32 r.out.2.2, Value.int IntKind.i64 r.st, Value.int IntKind.i64 r.why, Value.int IntKind.i64 r.tr, Value.int IntKind.i64 r.nx, Value.string (St r.tag)], Value.int IntKind.i64 0] ∧ K = [Tab b n A E RL]) := by
 refine hiS Tryz.func49 Tryz.ntmps49 fun g w0 R h0 => ?_
 have hq_ := (List.getElem?_eq_some_iff.1 hr).1
 refine go [] <| nP 40 [iV 0, iV 0, uV 0, iV 0, iV 0, iV 0, iV 0, .string (St [])] h0 (fun r10 w11 h12 => ?_)
 have h13 := tk3 (sf2 (sf1 (sf2 h12)))
 refine go [] <| cl1 Tryz.call79 (tcheck_ok b n A E RL vn (by omega)) h13 fun w14 h15 => ?_
 obtain ⟨s16, m17, p18, c19, E20, hM21, h22⟩ := tab_open h15
 have hRl_ := hM21.2
 obtain ⟨b23, hp24⟩ := sl_ptr0 (j := 3) h22 rfl (by omega)
 refine go [rd 4 3 0 2 1 h22, .v 4 5 (oIr (vn - 1)), .s 4 6] <| lwP (.pointer (some ⟨b23, q * 8, none⟩)) (law_indexSlP (x := (Operand.tmp 17)) (i := (Operand.tmp 19)) (p := p18) (b := b23) (off := 0) (z := (vn - 1)) (len := RL.length) (cap := c19) (by kernel_rfl) Tryz.underlying69 8 (by kernel_rfl) q (by kernel_rfl) hp24 (by kernel_rfl) (by omega) (by omega) (q * 8) (by omega) _) ?_
 have h25 := tk6 (sf5 (sf4 (sf4 (sf4 (sf5 (sf5 h22))))))
 have hl26 := fl_n eRs_ok (by decide) h25
 have h27 := tk6 (sf5 (sf4 (sf4 (sf4 (sf4 (sf5 h25))))))
 refine go [.r 4 7 b23 (q * 8) [iV r.out.1, iV r.out.2.1, uV r.out.2.2, iV r.st, iV r.why, iV r.tr, iV r.nx, .string (St r.tag)] ⟨gv_cell (j := 0) h25 rfl (gv_sl _ _ _) hp24 (fl_get eRs_ok (j := 0) (v := iV r.out.1) hr rfl) (q * 8) (by omega), gv_cell (j := 0) h25 rfl (gv_sl _ _ _) hp24 (fl_get eRs_ok (j := 1) (v := iV r.out.2.1) hr rfl) (q * 8 + 1) (by omega), gv_cell (j := 0) h25 rfl (gv_sl _ _ _) hp24 (fl_get eRs_ok (j := 2) (v := uV r.out.2.2) hr rfl) (q * 8 + 2) (by omega), gv_cell (j := 0) h25 rfl (gv_sl _ _ _) hp24 (fl_get eRs_ok (j := 3) (v := iV r.st) hr rfl) (q * 8 + 3) (by omega), gv_cell (j := 0) h25 rfl (gv_sl _ _ _) hp24 (fl_get eRs_ok (j := 4) (v := iV r.why) hr rfl) (q * 8 + 4) (by omega), gv_cell (j := 0) h25 rfl (gv_sl _ _ _) hp24 (fl_get eRs_ok (j := 5) (v := iV r.tr) hr rfl) (q * 8 + 5) (by omega), gv_cell (j := 0) h25 rfl (gv_sl _ _ _) hp24 (fl_get eRs_ok (j := 6) (v := iV r.nx) hr rfl) (q * 8 + 6) (by omega), gv_cell (j := 0) h25 rfl (gv_sl _ _ _) hp24 (fl_get eRs_ok (j := 7) (v := .string (St r.tag)) hr rfl) (q * 8 + 7) (by omega), trivial⟩] <| sP [(0, iV r.out.1), (1, iV r.out.2.1), (2, uV r.out.2.2), (3, iV r.st), (4, iV r.why), (5, iV r.tr), (6, iV r.nx), (7, .string (St r.tag))] [iV r.out.1, iV r.out.2.1, uV r.out.2.2, iV r.st, iV r.why, iV r.tr, iV r.nx, .string (St r.tag)] h27 fun w28 h29 => go [] ?_
 have h31 : sat g w28 [Tab b n A E RL, Cl r10 [iV r.out.1, iV r.out.2.1, uV r.out.2.2, iV r.st, iV r.why, iV r.tr, iV r.nx, .string (St r.tag)] 40, R] := tab_close hM21.1 (by omega) (by first | rfl | omega) (tk6 (sf5 (sf5 (sf5 (sf2 (sf1 (sf5 h29)))))))
 exact en (.tuple #[.agg #[iV r.out.1, iV r.out.2.1, uV r.out.2.2, iV r.st, iV r.why, iV r.tr, iV r.nx, .string (St r.tag)], iV 0]) [rd 0 0 0 0 8 h29] ⟨_, _, rfl, ⟨rfl, rfl⟩, (tk2 (sf1 (sf2 h31)))⟩

set_option maxHeartbeats 4000000 in
theorem tdrop_ht (b n : Nat) (A : List Sl2) (E : Tm) (RL : List Rs) (x y z : Int) (hz0 : 0 ≤ z) (hz1 : z ≤ 4294967295) (q : Nat) (s : Sl2) (hs : A[q]? = some s) (hd_ : y = (q : Int) ∧ s.1 = 1 ∧ s.2 = z) : HT Tryz.prog 45 [Value.pointer (some ⟨b, 0, none⟩), Value.agg #[Value.int IntKind.i64 x, Value.int IntKind.i64 y, Value.int IntKind.u32 z]] [Tab b n A E RL] (fun v K => v = Value.tuple #[] ∧ K = [Tab b n (giveA A q z) (gdel E y) RL]) := by
 refine hiS Tryz.func45 Tryz.ntmps45 fun g w0 R h0 => go [] <| nP 25 [iV x, iV y, uV z] h0 (fun r10 w11 h12 => ?_)
 refine go [] <| dw (fls [0, 1, 2, 3, 4, 5] (Tr.an 6 Tr.nil)) h12 fun w13 h14 => ?_
 obtain ⟨s16, m17, p18, c19, E20, hM21, h22⟩ := tab_open (tk3 (sf2 (sf1 (sf2 h14))))
 have hRl_ := hM21.2
 have h23 := tk6 (sf5 (sf4 (sf4 (sf5 (sf5 (sf5 h22))))))
 refine go [rd 1 3 0 1 1 h22, rd 1 5 4 1 1 h22] ?_
 refine actG ?_
 refine ag_delete (t := 68) (t2 := 3) (d := none) (m := (Operand.tmp 7)) (x := (Operand.tmp 9)) (kv := kI) (ve := vE) (by kernel_rfl) Tryz.underlying68 kyI y (by kernel_rfl) (by kernel_rfl) h23 (by kernel_rfl) (gdel E20 y) rfl ?_
 intro w24 h25
 refine ⟨_, rfl, ?_⟩
 have h26 : sat g w24 [Gp kI vE m17 (gdel E20 y), Cl b [pV s16, .map (some m17), .slice p18 RL.length c19] 71, Tb s16 n A, Sl 40 8 p18 RL.length c19 (fl eRs RL), Cl r10 [iV x, iV y, uV z] 25, R] := h25
 refine ⟨kd [], nxN ?_⟩
 refine go [] <| dw (fls [0, 1, 2, 3, 4, 5, 6, 7, 8] (Tr.an 9 Tr.nil)) h26 fun w27 h28 => ?_
 have h29 := tk6 (sf5 (sf4 (sf4 (sf5 (sf5 (sf5 h28))))))
 refine go [rd 2 3 1 0 1 h28, rd 2 5 4 1 1 h28, rd 2 7 4 2 1 h28] <| cd1 Tryz.call78 (give_ht s16 n A q s hs y z (by omega)) h29 fun w30 h31 => ⟨kd [], ?_⟩
 refine go [] ?_
 have h33 : sat g w30 [Tab b n (giveA A q z) (gdel E y) RL, Cl r10 [iV x, iV y, uV z] 25, R] := tab_close (meq_del hM21.1 y) (by omega) (by first | rfl | omega) (tk6 (sf5 (sf4 (sf4 (sf5 (sf5 (sf5 h31)))))))
 exact en (.tuple #[]) [] ⟨_, _, rfl, ⟨rfl, rfl⟩, (tk2 (sf1 (sf2 h33)))⟩

set_option maxHeartbeats 4000000 in
theorem tadd_full (b n : Nat) (A : List Sl2) (E : Tm) (RL : List Rs) (vn hx hy : Int) (q : Nat) (r : Rs) (hr : RL[q]? = some r) (hv : vn = (q : Int) + 1) (hf : (inS 0 A 0).length = 0) : HT Tryz.prog 36 [Value.pointer (some ⟨b, 0, none⟩), Value.int IntKind.i64 vn, Value.agg #[Value.int IntKind.i64 hx, Value.int IntKind.u32 hy]] [Tab b n A E RL] (fun v K => v = Value.tuple #[Value.agg #[Value.int IntKind.i64 0, Value.int IntKind.i64 0, Value.int IntKind.u32 0], Value.int IntKind.i64 4] ∧ K = [Tab b n A E RL]) := by
 refine hiS Tryz.func36 Tryz.ntmps36 fun g w0 R h0 => ?_
 have hq_ := (List.getElem?_eq_some_iff.1 hr).1
 refine go [] <| nP 38 [iV hx, uV hy] h0 (fun r10 w11 h12 => ?_)
 refine nP 25 [iV 0, iV 0, uV 0] h12 (fun r13 w14 h15 => ?_)
 obtain ⟨s17, m18, p19, c20, E21, hM22, h23⟩ := tab_open (tk4 (sf3 (sf2 (sf2 (sf3 h15)))))
 have hRl_ := hM22.2
 have h24 := tk7 (sf6 (sf5 (sf6 (sf6 (sf6 (sf6 (sf6 h23)))))))
 refine go [rd 1 3 0 0 1 h23] <| cl1 Tryz.call73 (take_n s17 n A (by omega)) h24 fun w25 h26 => go [] <| nP 38 [iV 0, uV 0] h26 (fun r27 w28 h29 => ?_)
 refine sP [(0, iV 0), (1, uV 0)] [iV 0, uV 0] h29 fun w30 h31 => ?_
 have h32 := tk8 (sf7 (sf6 (sf6 (sf6 (sf6 (sf6 (sf7 (sf7 h31))))))))
 refine go [] <| sP [(0, iV 0), (1, iV 0), (2, uV 0)] [iV 0, iV 0, uV 0] h32 fun w33 h34 => go [] ?_
 have h36 : sat g w33 [Tab b n A E RL, Cl r13 [iV 0, iV 0, uV 0] 25, Cl r27 [iV 0, uV 0] 38, Cl r10 [iV hx, uV hy] 38, R] := tab_close hM22.1 (by omega) (by first | rfl | omega) (tk8 (sf7 (sf6 (sf7 (sf7 (sf3 (sf3 (sf7 (sf7 h34)))))))))
 exact en (.tuple #[.agg #[iV 0, iV 0, uV 0], iV 4]) [rd 0 0 0 0 3 h34] ⟨_, _, rfl, ⟨rfl, rfl⟩, (tk2 (sf1 (sf4 h36)))⟩

set_option maxHeartbeats 4000000 in
theorem tadd_ok (b n : Nat) (A : List Sl2) (E : Tm) (RL : List Rs) (vn hx hy : Int) (q : Nat) (r : Rs) (hr : RL[q]? = some r) (hv : vn = (q : Int) + 1) (j : Nat) (gj : Int) (hj : (inS 0 A 0)[0]? = some (j, gj)) : HT Tryz.prog 36 [Value.pointer (some ⟨b, 0, none⟩), Value.int IntKind.i64 vn, Value.agg #[Value.int IntKind.i64 hx, Value.int IntKind.u32 hy]] [Tab b n A E RL] (fun v K => v = Value.tuple #[Value.agg #[Value.int IntKind.i64 r.out.1, Value.int IntKind.i64 (((j : Nat) : Int)), Value.int IntKind.u32 gj], Value.int IntKind.i64 0] ∧ K = [Tab b n (A.set j (1, gj)) (gset E (j : Int) ⟨(r.out.1, (j : Int), gj), vn, (hx, hy)⟩) RL]) := by
 have hfl_ := (List.getElem?_eq_some_iff.1 hj).1
 refine hiS Tryz.func36 Tryz.ntmps36 fun g w0 R h0 => ?_
 have hq_ := (List.getElem?_eq_some_iff.1 hr).1
 refine go [] <| nP 38 [iV hx, uV hy] h0 (fun r10 w11 h12 => ?_)
 refine nP 25 [iV 0, iV 0, uV 0] h12 (fun r13 w14 h15 => ?_)
 obtain ⟨s17, m18, p19, c20, E21, hM22, h23⟩ := tab_open (tk4 (sf3 (sf2 (sf2 (sf3 h15)))))
 have hRl_ := hM22.2
 have h24 := tk7 (sf6 (sf5 (sf6 (sf6 (sf6 (sf6 (sf6 h23)))))))
 refine go [rd 1 3 0 0 1 h23] <| cl1 Tryz.call73 (take_j s17 n A j gj hj) h24 fun w25 h26 => go [] <| nP 38 [iV 0, uV 0] h26 (fun r27 w28 h29 => ?_)
 refine sP [(0, iV (j : Int)), (1, uV gj)] [iV (j : Int), uV gj] h29 fun w30 h31 => go [] <| dw (fls [0, 1, 2, 3, 4, 5, 6, 7, 8, 9, 10, 11, 12, 13, 14] (Tr.an 15 (Tr.an 16 Tr.nil))) h31 fun w32 h33 => ?_
 obtain ⟨b34, hp35⟩ := sl_ptr0 (j := 4) h33 rfl (by omega)
 refine go [rd 4 3 2 2 1 h33, .v 4 5 (oIr (vn - 1)), .s 4 6] <| lw (.pointer (some ⟨b34, q * 8, none⟩)) (fun _ => law_indexSlP (x := (Operand.tmp 26)) (i := (Operand.tmp 28)) (p := p19) (b := b34) (off := 0) (z := (vn - 1)) (len := RL.length) (cap := c20) (by kernel_rfl) Tryz.underlying69 8 (by kernel_rfl) q (by kernel_rfl) hp35 (by kernel_rfl) (by omega) (by omega) (q * 8) (by omega) _) ?_
 have h36 := tk8 (sf7 (sf6 (sf6 (sf6 (sf6 (sf7 (sf7 (sf7 h33))))))))
 have hl37 := fl_n eRs_ok (by decide) h36
 refine go [.r 4 9 b34 (q * 8) [iV r.out.1] ⟨gv_cell (j := 0) h36 rfl (gv_sl _ _ _) hp35 (fl_get eRs_ok (j := 0) (v := iV r.out.1) hr rfl) (q * 8) (by omega), trivial⟩, rd 4 11 1 0 1 h36, rd 4 13 1 1 1 h36] <| nG (fun q_ => pV q_) 25 [iV 0, iV 0, uV 0] h36 (fun r38 w39 h40 => ⟨kd [rd 0 13 2 1 1 h40, rd 0 11 2 0 1 h40, .r 0 9 b34 (q * 8) [iV r.out.1] ⟨gv_cell (j := 1) h40 rfl (gv_sl _ _ _) hp35 (fl_get eRs_ok (j := 0) (v := iV r.out.1) hr rfl) (q * 8) (by omega), trivial⟩, rd 0 3 4 2 1 h40], ?_⟩)
 refine sG [(0, iV r.out.1), (1, iV (j : Int)), (2, uV gj)] [iV r.out.1, iV (j : Int), uV gj] h40 fun w41 h42 => ⟨kd [], ?_⟩
 refine go [] <| dw (fls [0, 1, 2, 3, 4, 5, 6, 7, 8, 9] (Tr.an 10 Tr.nil)) h42 fun w43 h44 => ?_
 have h45 := tk9 (sf8 (sf7 (sf7 (sf7 (sf7 (sf7 (sf8 (sf8 (sf8 h44)))))))))
 refine go [rd 5 3 4 1 1 h44, rd 5 5 2 0 1 h44, rd 5 6 0 0 3 h44, rd 5 8 7 0 2 h44] ?_
 refine actG ?_
 refine ag_mapUpdate (t := 68) (m := (Operand.tmp 41)) (x := (Operand.tmp 43)) (y := (Operand.tmp 47)) (kv := kI) (ve := vE) (by kernel_rfl) (by kernel_rfl) Tryz.underlying68 kyI (j : Int) (⟨(r.out.1, (j : Int), gj), vn, (hx, hy)⟩ : Ety) (by kernel_rfl) (by kernel_rfl) (by kernel_rfl) h45 (gset E21 (j : Int) ⟨(r.out.1, (j : Int), gj), vn, (hx, hy)⟩) rfl ?_
 intro w46 h47
 refine ⟨kd [], nxN ?_⟩
 have h48 := tk9 (sf8 (sf7 (sf7 (sf7 (sf7 (sf7 (sf7 (sf8 (sf8 h47)))))))))
 refine go [rd 6 0 1 0 3 h47] <| sP [(0, iV r.out.1), (1, iV (j : Int)), (2, uV gj)] [iV r.out.1, iV (j : Int), uV gj] h48 fun w49 h50 => go [] ?_
 have h52 : sat g w49 [Tab b n (A.set j (1, gj)) (gset E (j : Int) ⟨(r.out.1, (j : Int), gj), vn, (hx, hy)⟩) RL, Cl r13 [iV r.out.1, iV (j : Int), uV gj] 25, Cl r38 [iV r.out.1, iV (j : Int), uV gj] 25, Cl r27 [iV (j : Int), uV gj] 38, Cl r10 [iV hx, uV hy] 38, R] := tab_close (meq_set hM22.1 (j : Int) ⟨(r.out.1, (j : Int), gj), vn, (hx, hy)⟩) (by omega) (by first | rfl | omega) (tk9 (sf8 (sf7 (sf6 (sf6 (sf4 (sf5 (sf6 (sf8 (sf8 h50))))))))))
 exact en (.tuple #[.agg #[iV r.out.1, iV (j : Int), uV gj], iV 0]) [rd 0 0 0 0 3 h50] ⟨_, _, rfl, ⟨rfl, rfl⟩, (tk2 (sf1 (sf5 h52)))⟩

set_option maxHeartbeats 4000000 in
theorem taddx_ok (p0 : Option Addr) (k0 c0 : Nat) (b n : Nat) (A : List Sl2) (E : Tm) (RL : List Rs) (vn hx hy : Int) (q : Nat) (r : Rs) (hr : RL[q]? = some r) (hv : vn = (q : Int) + 1) (j : Nat) (gj : Int) (hj : (inS 0 A 0)[0]? = some (j, gj)) : HT Tryz.prog 36 [Value.pointer (some ⟨b, 0, none⟩), Value.int IntKind.i64 vn, Value.agg #[Value.int IntKind.i64 hx, Value.int IntKind.u32 hy]] [TabX b n A E RL p0 k0 c0] (fun v K => v = Value.tuple #[Value.agg #[Value.int IntKind.i64 r.out.1, Value.int IntKind.i64 (((j : Nat) : Int)), Value.int IntKind.u32 gj], Value.int IntKind.i64 0] ∧ K = [TabX b n (A.set j (1, gj)) (gset E (j : Int) ⟨(r.out.1, (j : Int), gj), vn, (hx, hy)⟩) RL p0 k0 c0]) := by
 have hfl_ := (List.getElem?_eq_some_iff.1 hj).1
 refine hiS Tryz.func36 Tryz.ntmps36 fun g w0 R h0 => ?_
 have hq_ := (List.getElem?_eq_some_iff.1 hr).1
 refine go [] <| nP 38 [iV hx, uV hy] h0 (fun r10 w11 h12 => ?_)
 refine nP 25 [iV 0, iV 0, uV 0] h12 (fun r13 w14 h15 => ?_)
 obtain ⟨s17, m18, E21, hM22, h23⟩ := tabx_open (tk4 (sf3 (sf2 (sf2 (sf3 h15)))))
 have hRl_ := hM22.2
 have h24 := tk7 (sf6 (sf5 (sf5 (sf5 (sf6 (sf6 (sf6 h23)))))))
 have hl25 := fl_n eRs_ok (by decide) h24
 have h26 := tk7 (sf6 (sf6 (sf6 (sf3 (sf6 (sf6 (sf6 h24)))))))
 have h27 := tk7 (sf6 (sf5 (sf6 (sf6 (sf6 (sf6 (sf6 h26)))))))
 refine go [rd 1 3 0 0 1 h26] <| cl1 Tryz.call73 (take_j s17 n A j gj hj) h27 fun w28 h29 => go [] <| nP 38 [iV 0, uV 0] h29 (fun r30 w31 h32 => ?_)
 refine sP [(0, iV (j : Int)), (1, uV gj)] [iV (j : Int), uV gj] h32 fun w33 h34 => go [] <| dw (fls [0, 1, 2, 3, 4, 5, 6, 7, 8, 9, 10, 11, 12, 13, 14] (Tr.an 15 (Tr.an 16 Tr.nil))) h34 fun w35 h36 => ?_
 obtain ⟨b37, hp38⟩ := sl_ptr0 (j := 4) h36 rfl (by omega)
 refine go [rd 4 3 2 2 1 h36, .v 4 5 (oIr (vn - 1)), .s 4 6] <| lw (.pointer (some ⟨b37, q * 8, none⟩)) (fun _ => law_indexSlP (x := (Operand.tmp 26)) (i := (Operand.tmp 28)) (p := p0) (b := b37) (off := 0) (z := (vn - 1)) (len := k0) (cap := c0) (by kernel_rfl) Tryz.underlying69 8 (by kernel_rfl) q (by kernel_rfl) hp38 (by kernel_rfl) (by omega) (by omega) (q * 8) (by omega) _) <| go [.r 4 9 b37 (q * 8) [iV r.out.1] ⟨gv_cell (j := 4) h36 rfl (gv_sl _ _ _) hp38 (fl_get eRs_ok (j := 0) (v := iV r.out.1) hr rfl) (q * 8) (by omega), trivial⟩, rd 4 11 0 0 1 h36, rd 4 13 0 1 1 h36] <| nG (fun q_ => pV q_) 25 [iV 0, iV 0, uV 0] h36 (fun r39 w40 h41 => ⟨kd [rd 0 13 1 1 1 h41, rd 0 11 1 0 1 h41, .r 0 9 b37 (q * 8) [iV r.out.1] ⟨gv_cell (j := 5) h41 rfl (gv_sl _ _ _) hp38 (fl_get eRs_ok (j := 0) (v := iV r.out.1) hr rfl) (q * 8) (by omega), trivial⟩, rd 0 3 3 2 1 h41], ?_⟩)
 refine sG [(0, iV r.out.1), (1, iV (j : Int)), (2, uV gj)] [iV r.out.1, iV (j : Int), uV gj] h41 fun w42 h43 => ⟨kd [], ?_⟩
 refine go [] <| dw (fls [0, 1, 2, 3, 4, 5, 6, 7, 8, 9] (Tr.an 10 Tr.nil)) h43 fun w44 h45 => ?_
 have h46 := tk9 (sf8 (sf7 (sf7 (sf7 (sf7 (sf8 (sf8 (sf8 (sf8 h45)))))))))
 refine go [rd 5 3 3 1 1 h45, rd 5 5 1 0 1 h45, rd 5 6 0 0 3 h45, rd 5 8 7 0 2 h45] ?_
 refine actG ?_
 refine ag_mapUpdate (t := 68) (m := (Operand.tmp 41)) (x := (Operand.tmp 43)) (y := (Operand.tmp 47)) (kv := kI) (ve := vE) (by kernel_rfl) (by kernel_rfl) Tryz.underlying68 kyI (j : Int) (⟨(r.out.1, (j : Int), gj), vn, (hx, hy)⟩ : Ety) (by kernel_rfl) (by kernel_rfl) (by kernel_rfl) h46 (gset E21 (j : Int) ⟨(r.out.1, (j : Int), gj), vn, (hx, hy)⟩) rfl ?_
 intro w47 h48
 refine ⟨kd [], nxN ?_⟩
 have h49 := tk9 (sf8 (sf7 (sf7 (sf7 (sf7 (sf7 (sf7 (sf8 (sf8 h48)))))))))
 refine go [rd 6 0 1 0 3 h48] <| sP [(0, iV r.out.1), (1, iV (j : Int)), (2, uV gj)] [iV r.out.1, iV (j : Int), uV gj] h49 fun w50 h51 => go [] ?_
 have h53 : sat g w50 [TabX b n (A.set j (1, gj)) (gset E (j : Int) ⟨(r.out.1, (j : Int), gj), vn, (hx, hy)⟩) RL p0 k0 c0, Cl r13 [iV r.out.1, iV (j : Int), uV gj] 25, Cl r39 [iV r.out.1, iV (j : Int), uV gj] 25, Cl r30 [iV (j : Int), uV gj] 38, Cl r10 [iV hx, uV hy] 38, R] := tabx_close (meq_set hM22.1 (j : Int) ⟨(r.out.1, (j : Int), gj), vn, (hx, hy)⟩) (by omega)  (tk9 (sf8 (sf7 (sf6 (sf8 (sf4 (sf5 (sf5 (sf8 (sf8 h51))))))))))
 exact en (.tuple #[.agg #[iV r.out.1, iV (j : Int), uV gj], iV 0]) [rd 0 0 0 0 3 h51] ⟨_, _, rfl, ⟨rfl, rfl⟩, (tk2 (sf1 (sf5 h53)))⟩

end Go.Proofs.YtjjpmehiolejgaaGreat

/- Walks, printed by my generator ../tab/gen13.py. -/
namespace Go.Proofs.YtjjpmehiolejgaaGreat
theorem seq38_eql_t {n : Nat} {l : Fr} {o : Oper} {x y : Operand} (a0 : Int) (a1 : Int) (c0 : Int) (c1 : Int) (ho : o.op = .binOp .eql 38 x y 38) (hx : fe n l x = .agg #[.int .i64 a0, .int .u32 a1]) (hy : fe n l y = .agg #[.int .i64 c0, .int .u32 c1]) (h : a0 = c0 ∧ a1 = c1) (w : World) : (execOp (fe n l) o).run Tryz.prog w = .ok (.value (.bool true)) w := by
  obtain ⟨rfl, rfl⟩ := h
  simp [execOp, ho, hx, hy, go_sem]
theorem seq38_eql_f {n : Nat} {l : Fr} {o : Oper} {x y : Operand} (a0 : Int) (a1 : Int) (c0 : Int) (c1 : Int) (ho : o.op = .binOp .eql 38 x y 38) (hx : fe n l x = .agg #[.int .i64 a0, .int .u32 a1]) (hy : fe n l y = .agg #[.int .i64 c0, .int .u32 c1]) (h : ¬ (a0 = c0 ∧ a1 = c1)) (w : World) : (execOp (fe n l) o).run Tryz.prog w = .ok (.value (.bool false)) w := by
  by_cases h0 : a0 = c0
  · skip
    by_cases h1 : a1 = c1
    · exact absurd ⟨h0, h1⟩ h
    · simp [execOp, ho, hx, hy, go_sem, h0, h1]
  · simp [execOp, ho, hx, hy, go_sem, h0]
set_option maxHeartbeats 4000000 in
theorem thas_ht (b n : Nat) (A : List Sl2) (E : Tm) (RL : List Rs) (hx hy : Int) : HT Tryz.prog 34 [Value.pointer (some ⟨b, 0, none⟩), Value.agg #[Value.int IntKind.i64 hx, Value.int IntKind.u32 hy]] [Tab b n A E RL] (fun v K => (v = Value.bool true ∧ (∃ e ∈ allE E, e.h = (hx, hy)) ∧ K = [Tab b n A E RL]) ∨ (v = Value.bool false ∧ (∀ e ∈ allE E, e.h ≠ (hx, hy)) ∧ K = [Tab b n A E RL])) := by
 refine hi_in 13 ([(0, pV b), (1, .agg #[iV hx, uV hy])] : Fr) Tryz.func34 (by kernel_rfl) Tryz.ntmps34 rfl rfl ?_
 intro g w0 R h0
 refine ySq ?_
 refine yPl [0, 1] ?_
 refine yA ?_
 refine yNp 3 38 [iV hx, uV hy] h0 fun r1 w2 h3 => ?_
 refine yA ?_
 refine yNp 4 4 [.bool false] h3 fun r4 w5 h6 => ?_
 refine PO.mk ?_
 refine yK [(0, pV b), (1, .agg #[iV hx, uV hy]), (3, pV r1), (4, pV r4)] fun lr7 => ?_
 refine ySq ?_
 refine ySq ?_
 refine yPl [0, 1] ?_
 refine yB0 [1] [0] [(6, pV b)] ?_
 refine yA ?_
 refine yCl 7 Tryz.call70 (tall1_ht b) h6 ?_
 rintro v K w9 (⟨b8, rfl, rfl⟩) h10
 refine ⟨_, rfl, ?_⟩
 have h11 := ap1 h10
 refine PO.mk ?_
 refine yK [(0, pV b), (1, .agg #[iV hx, uV hy]), (3, pV r1), (4, pV r4), (7, .func (Fn.func 89) #[] #[pV b8])] fun lr12 => ?_
 refine yBk 0 ?_
 have h18 := tk5 (sf4 (sf3 (sf2 (sf4 (sf4 h11)))))
 refine gi_rf2 (x := (Operand.tmp 7)) (ps := #[8]) (asg := CA Tryz.f34 [1, 0, 1, 0, 1]) (bd := CA Tryz.f34 [1, 0, 1, 0, 0]) (gf := 89) (cap := [pV b8]) (N := ((allE E).length)) (xs := fun i => [.agg #[iV (((allE E).getD i noE).d.1), iV (((allE E).getD i noE).d.2.1), uV (((allE E).getD i noE).d.2.2), iV (((allE E).getD i noE).num), iV (((allE E).getD i noE).h.1), uV (((allE E).getD i noE).h.2)]]) (At := [Cl b8 [pV b] 28, Tab b n A E RL]) (K0 := [Cl r1 [iV hx, uV hy] 38, Cl r4 [.bool false] 4]) (L := [R]) (fun i => [(8, .agg #[iV (((allE E).getD i noE).d.1), iV (((allE E).getD i noE).d.2.1), uV (((allE E).getD i noE).d.2.2), iV (((allE E).getD i noE).num), iV (((allE E).getD i noE).h.1), uV (((allE E).getD i noE).h.2)])] ++ (([(0, pV b), (1, .agg #[iV hx, uV hy]), (3, pV r1), (4, pV r4), (7, .func (Fn.func 89) #[] #[pV b8])] : Fr) ++ lr12)) (fun i rb_ => ([(5, pV rb_), (8, .agg #[iV (((allE E).getD i noE).d.1), iV (((allE E).getD i noE).d.2.1), uV (((allE E).getD i noE).d.2.2), iV (((allE E).getD i noE).num), iV (((allE E).getD i noE).h.1), uV (((allE E).getD i noE).h.2)])] : Fr) ++ (([(0, pV b), (1, .agg #[iV hx, uV hy]), (3, pV r1), (4, pV r4), (7, .func (Fn.func 89) #[] #[pV b8])] : Fr) ++ lr12)) (fun i rb_ K => (∀ j : Nat, j < i → ((allE E).getD j noE).h ≠ (hx, hy)) ∧ K = [Cl rb_ [iV (((allE E).getD i noE).d.1), iV (((allE E).getD i noE).d.2.1), uV (((allE E).getD i noE).d.2.2), iV (((allE E).getD i noE).num), iV (((allE E).getD i noE).h.1), uV (((allE E).getD i noE).h.2)] 89, Cl r1 [iV hx, uV hy] 38, Cl r4 [.bool false] 4]) (fun i K => (∀ j : Nat, j < i → ((allE E).getD j noE).h ≠ (hx, hy)) ∧ K = [Cl r1 [iV hx, uV hy] 38, Cl r4 [.bool false] 4]) (fun c i K => (c = Code.ret ∧ (∃ e ∈ allE E, e.h = (hx, hy)) ∧ K = [Cl r1 [iV hx, uV hy] 38, Cl r4 [.bool true] 4, Tab b n A E RL])) (by kernel_rfl) (by kernel_rfl) Tryz.call89 (tall_it b8 b n A E RL) ⟨(fun j h => absurd h (Nat.not_lt_zero _)), rfl⟩ h18 (fun _ _ => rfl) (fun _ _ => rf_frame1 rfl) ?_ ?_ ?_ ?_
 ·
  rintro i hi_ lp_ w19 K_ G ⟨hall_, rfl⟩ h20
  have h21 : sat g w19 [Cl r1 [iV hx, uV hy] 38, Cl r4 [.bool false] 4, Cl b8 [pV b] 28, Tab b n A E RL, G] := h20
  change WP _ _ (CA Tryz.f34 [1, 0, 1, 0, 1]) _ (mk 13 (([(8, .agg #[iV (((allE E).getD i noE).d.1), iV (((allE E).getD i noE).d.2.1), uV (((allE E).getD i noE).d.2.2), iV (((allE E).getD i noE).num), iV (((allE E).getD i noE).h.1), uV (((allE E).getD i noE).h.2)]), (0, pV b), (1, .agg #[iV hx, uV hy]), (3, pV r1), (4, pV r4), (7, .func (Fn.func 89) #[] #[pV b8])] : Fr) ++ lr12)) _
  refine yPl [0, 1] ?_
  refine yA ?_
  refine yNp 5 89 [iV 0, iV 0, uV 0, iV 0, iV 0, uV 0] h21 fun r22 w23 h24 => ?_
  refine yA ?_
  refine yS [(0, iV (((allE E).getD i noE).d.1)), (1, iV (((allE E).getD i noE).d.2.1)), (2, uV (((allE E).getD i noE).d.2.2)), (3, iV (((allE E).getD i noE).num)), (4, iV (((allE E).getD i noE).h.1)), (5, uV (((allE E).getD i noE).h.2))] [iV (((allE E).getD i noE).d.1), iV (((allE E).getD i noE).d.2.1), uV (((allE E).getD i noE).d.2.2), iV (((allE E).getD i noE).num), iV (((allE E).getD i noE).h.1), uV (((allE E).getD i noE).h.2)] h24 fun w25 h26 => ?_
  refine PO.mk ?_
  repeat (first | simp only [Exit.inBlock] | simp only [Exit.then])
  exact ⟨r22, _, rfl, ⟨hall_, rfl⟩, h26⟩
 ·
  rintro i hi29 lp_ w27 rb_ K_ G ⟨hall_, rfl⟩ h28
  have h30 : sat g w27 [Cl rb_ [iV (((allE E).getD i noE).d.1), iV (((allE E).getD i noE).d.2.1), uV (((allE E).getD i noE).d.2.2), iV (((allE E).getD i noE).num), iV (((allE E).getD i noE).h.1), uV (((allE E).getD i noE).h.2)] 89, Cl r1 [iV hx, uV hy] 38, Cl r4 [.bool false] 4, Cl b8 [pV b] 28, Tab b n A E RL, G] := h28
  change WP _ _ (CA Tryz.f34 [1, 0, 1, 0, 0]) _ (mk 13 (([(5, pV rb_), (8, .agg #[iV (((allE E).getD i noE).d.1), iV (((allE E).getD i noE).d.2.1), uV (((allE E).getD i noE).d.2.2), iV (((allE E).getD i noE).num), iV (((allE E).getD i noE).h.1), uV (((allE E).getD i noE).h.2)]), (0, pV b), (1, .agg #[iV hx, uV hy]), (3, pV r1), (4, pV r4), (7, .func (Fn.func 89) #[] #[pV b8])] : Fr) ++ lr12)) _
  refine yBk 1 ?_
  refine ySq ?_
  refine yPl [0, 1, 2, 3] ?_
  refine yBb [3] [(11, .agg #[iV hx, uV hy]), (10, .agg #[iV (((allE E).getD i noE).h.1), uV (((allE E).getD i noE).h.2)]), (9, .pointer (some ⟨rb_, 4, none⟩))] [e0 0, e2 1 [iV (((allE E).getD i noE).h.1), uV (((allE E).getD i noE).h.2)], e2 2 [iV hx, uV hy]] [(2, ⟨r1, 0, none⟩, iV hx), (2, ⟨r1, 1, none⟩, uV hy), (1, ⟨rb_, 4, none⟩, iV (((allE E).getD i noE).h.1)), (1, ⟨rb_, 5, none⟩, uV (((allE E).getD i noE).h.2))] [] trivial (kC (sat_cell h30 1 rfl rfl) (kC (sat_cell h30 1 rfl rfl) (kC (sat_cell h30 0 rfl rfl) (kC (sat_cell h30 0 rfl rfl) nC)))) ?_
  by_cases c31 : ((allE E).getD i noE).h.1 = hx
  ·
   by_cases c32 : ((allE E).getD i noE).h.2 = hy
   ·
    refine plain_law (i := 3) 12 (.bool true) (by kernel_rfl) (seq38_eql_t (o := opA (RA Tryz.f34 [1, 0, 1, 0, 0, 0, 0]) 3) (x := (Operand.tmp 10)) (y := (Operand.tmp 11)) (((allE E).getD i noE).h.1) (((allE E).getD i noE).h.2) hx hy (by kernel_rfl) (by kernel_rfl) (by kernel_rfl) ⟨(by omega), (by omega)⟩ _) (.mk ?_)
    refine yK [(0, pV b), (1, .agg #[iV hx, uV hy]), (3, pV r1), (4, pV r4), (5, pV rb_), (7, .func (Fn.func 89) #[] #[pV b8]), (8, .agg #[iV (((allE E).getD i noE).d.1), iV (((allE E).getD i noE).d.2.1), uV (((allE E).getD i noE).d.2.2), iV (((allE E).getD i noE).num), iV (((allE E).getD i noE).h.1), uV (((allE E).getD i noE).h.2)]), (12, .bool true)] fun lr33 => ?_
    refine yCt ?_
    refine ySq ?_
    refine yPl [0] ?_
    have h34 := tk6 (sf5 (sf4 (sf4 (sf5 (sf5 (sf5 h30))))))
    refine yA ?_
    refine yS [(0, .bool true)] [.bool true] h34 fun w35 h36 => ?_
    refine PO.mk ?_
    refine yK [(0, pV b), (1, .agg #[iV hx, uV hy]), (3, pV r1), (4, pV r4), (5, pV rb_), (7, .func (Fn.func 89) #[] #[pV b8]), (8, .agg #[iV (((allE E).getD i noE).d.1), iV (((allE E).getD i noE).d.2.1), uV (((allE E).getD i noE).d.2.2), iV (((allE E).getD i noE).num), iV (((allE E).getD i noE).h.1), uV (((allE E).getD i noE).h.2)]), (12, .bool true)] fun lr37 => ?_
    refine yRt ?_
    repeat (first | simp only [Exit.inBlock] | simp only [Exit.then])
    have h38 := tk6 (sf5 (sf4 (sf5 (sf5 (sf2 (sf3 h36))))))
    have h39 := tk4 h38
    exact ⟨_, ⟨rfl, ⟨_, getD_mem hi29, Prod.ext (show ((allE E).getD i noE).h.1 = hx from by omega) (show ((allE E).getD i noE).h.2 = hy from by omega)⟩, rfl⟩, h39⟩
   ·
    refine plain_law (i := 3) 12 (.bool false) (by kernel_rfl) (seq38_eql_f (o := opA (RA Tryz.f34 [1, 0, 1, 0, 0, 0, 0]) 3) (x := (Operand.tmp 10)) (y := (Operand.tmp 11)) (((allE E).getD i noE).h.1) (((allE E).getD i noE).h.2) hx hy (by kernel_rfl) (by kernel_rfl) (by kernel_rfl) (by omega) _) (.mk ?_)
    refine yK [(0, pV b), (1, .agg #[iV hx, uV hy]), (3, pV r1), (4, pV r4), (5, pV rb_), (7, .func (Fn.func 89) #[] #[pV b8]), (8, .agg #[iV (((allE E).getD i noE).d.1), iV (((allE E).getD i noE).d.2.1), uV (((allE E).getD i noE).d.2.2), iV (((allE E).getD i noE).num), iV (((allE E).getD i noE).h.1), uV (((allE E).getD i noE).h.2)]), (12, .bool false)] fun lr40 => ?_
    refine yCf ?_
    refine ySk ?_
    repeat (first | simp only [Exit.inBlock] | simp only [Exit.then])
    have h41 := tk6 (sf5 (sf5 (sf5 (sf5 (sf5 h30)))))
    have h42 := tk5 h41
    exact ⟨_, ⟨(upto_go hall_ (ne_pair (by omega))), rfl⟩, h42⟩
  ·
   refine plain_law (i := 3) 12 (.bool false) (by kernel_rfl) (seq38_eql_f (o := opA (RA Tryz.f34 [1, 0, 1, 0, 0, 0, 0]) 3) (x := (Operand.tmp 10)) (y := (Operand.tmp 11)) (((allE E).getD i noE).h.1) (((allE E).getD i noE).h.2) hx hy (by kernel_rfl) (by kernel_rfl) (by kernel_rfl) (by omega) _) (.mk ?_)
   refine yK [(0, pV b), (1, .agg #[iV hx, uV hy]), (3, pV r1), (4, pV r4), (5, pV rb_), (7, .func (Fn.func 89) #[] #[pV b8]), (8, .agg #[iV (((allE E).getD i noE).d.1), iV (((allE E).getD i noE).d.2.1), uV (((allE E).getD i noE).d.2.2), iV (((allE E).getD i noE).num), iV (((allE E).getD i noE).h.1), uV (((allE E).getD i noE).h.2)]), (12, .bool false)] fun lr43 => ?_
   refine yCf ?_
   refine ySk ?_
   repeat (first | simp only [Exit.inBlock] | simp only [Exit.then])
   have h44 := tk6 (sf5 (sf5 (sf5 (sf5 (sf5 h30)))))
   have h45 := tk5 h44
   exact ⟨_, ⟨(upto_go hall_ (ne_pair (by omega))), rfl⟩, h45⟩
 ·
  rintro D46 w47 K_ ⟨hall_, rfl⟩ h48
  have h49 : sat g w47 [pt D46 (Obj.deferred (some [])), Cl r1 [iV hx, uV hy] 38, Cl r4 [.bool false] 4, Cl b8 [pV b] 28, Tab b n A E RL, R] := h48
  refine yK [(4, pV r4)] fun lr50 => ?_
  refine ySq ?_
  refine yPl [0] ?_
  have h51 := tk6 (sf5 (sf4 (sf4 (sf5 (sf5 (sf5 h49))))))
  refine yA ?_
  refine yS [(0, .bool false)] [.bool false] h51 fun w52 h53 => ?_
  refine PO.mk ?_
  refine yK [(4, pV r4)] fun lr54 => ?_
  refine yRt ?_
  repeat (first | simp only [Exit.inBlock] | simp only [Exit.then])
  have h55 := tk6 (sf5 (sf4 (sf5 (sf5 (sf5 (sf5 h53))))))
  refine hi_out1 h55 [.bool false] (.bool false) [(⟨r4, 0, none⟩, .bool false)] (by kernel_rfl) (fun w57 h56 => ⟨?_, ?_⟩)
  · exact (allq ⟨sat_cell h56 1 rfl rfl, trivial⟩)
  ·
   have h58 : sat g w57 [pt D46 (Obj.deferred none), Cl r4 [.bool false] 4, Cl r1 [iV hx, uV hy] 38, Cl b8 [pV b] 28, Tab b n A E RL, R] := h56
   have h59 := tk6 (sf5 (sf4 (sf4 (sf4 (sf4 (sf5 h58))))))
   have h60 := tk2 (sf1 (sf5 h59))
   exact ⟨.bool false, [Tab b n A E RL], rfl, (.inr ⟨rfl, getD_all hall_, rfl⟩), h60⟩
 ·
  rintro D61 w62 ex_ i K_ hi64 (⟨rfl, hex_, rfl⟩) h63
  ·
   have h65 : sat g w62 [pt D61 (Obj.deferred (some [])), Cl r1 [iV hx, uV hy] 38, Cl r4 [.bool true] 4, Tab b n A E RL, R] := h63
   refine gi_rt rfl ?_
   repeat (first | simp only [Exit.inBlock] | simp only [Exit.then])
   refine hi_out1 h65 [.bool true] (.bool true) [(⟨r4, 0, none⟩, .bool true)] (by kernel_rfl) (fun w67 h66 => ⟨?_, ?_⟩)
   · exact (allq ⟨sat_cell h66 2 rfl rfl, trivial⟩)
   ·
    have h68 : sat g w67 [pt D61 (Obj.deferred none), Cl r1 [iV hx, uV hy] 38, Cl r4 [.bool true] 4, Tab b n A E RL, R] := h66
    have h69 := tk5 (sf4 (sf3 (sf3 (sf3 (sf4 h68)))))
    have h70 := tk2 (sf1 (sf4 h69))
    exact ⟨.bool true, [Tab b n A E RL], rfl, (.inl ⟨rfl, hex_, rfl⟩), h70⟩

set_option maxHeartbeats 4000000 in
theorem tdescs_ok (b n : Nat) (A : List Sl2) (E : Tm) (RL : List Rs) (vn : Int) (h : 1 ≤ vn ∧ vn ≤ (RL.length : Int)) : HT Tryz.prog 46 [Value.pointer (some ⟨b, 0, none⟩), Value.int IntKind.i64 vn] [Tab b n A E RL] (fun v K => ∃ (p : Option Addr) (c : Nat), v = Value.tuple #[Value.slice p (descs E vn).length c, Value.int .i64 0] ∧ K = [Tab b n A E RL, Sl 25 3 p (((descs E vn).length)) c (fl eO (descs E vn))]) := by
 refine hi_in 28 ([(0, pV b), (1, iV vn)] : Fr) Tryz.func46 (by kernel_rfl) Tryz.ntmps46 rfl rfl ?_
 intro g w0 R h0
 refine ySq ?_
 refine yPl [0, 1, 2] ?_
 refine yA ?_
 refine yNp 3 3 [iV vn] h0 fun r1 w2 h3 => ?_
 refine yB0 [] [1, 2] [(5, iV 0), (4, .slice none 0 0)] (.mk ?_)
 refine yK [(0, pV b), (1, iV vn), (3, pV r1), (4, .slice none 0 0), (5, iV 0)] fun lr4 => ?_
 refine ySq ?_
 refine ySq ?_
 refine yPl [0, 1, 2, 3] ?_
 refine yBb [2, 3] [(10, iV vn), (9, pV b)] [e0 0, e2 1 [iV vn]] [(1, ⟨r1, 0, none⟩, iV vn)] [] trivial (kC (sat_cell h3 0 rfl rfl) nC) ?_
 have h5 := tk3 (sf2 (sf1 (sf2 h3)))
 refine yA ?_
 refine yCl 11 Tryz.call79 (tcheck_ok b n A E RL vn (by omega)) h5 ?_
 rintro v K w6 (⟨rfl, rfl⟩) h7
 refine ⟨_, rfl, ?_⟩
 have h8 := ap1 h7
 refine yB0 [] [3] [(6, iV 0)] (.mk ?_)
 refine yK [(0, pV b), (1, iV vn), (3, pV r1), (4, .slice none 0 0), (5, iV 0), (6, iV 0)] fun lr9 => ?_
 refine ySq ?_
 refine yPl [0, 1] ?_
 refine yB0 [] [0, 1] [(13, .bool false), (12, iV 0)] (.mk ?_)
 refine yK [(0, pV b), (1, iV vn), (3, pV r1), (4, .slice none 0 0), (5, iV 0), (6, iV 0), (13, .bool false)] fun lr10 => ?_
 refine yCf ?_
 refine ySk ?_
 refine ySq ?_
 refine yPl [0] ?_
 refine yA ?_
 refine yNp 7 48 [.slice none 0 0] h8 fun r11 w12 h13 => ?_
 refine PO.mk ?_
 refine yK [(0, pV b), (1, iV vn), (3, pV r1), (4, .slice none 0 0), (5, iV 0), (6, iV 0), (7, pV r11), (13, .bool false)] fun lr14 => ?_
 refine ySq ?_
 refine ySq ?_
 refine yPl [0, 1] ?_
 refine yB0 [1] [0] [(15, pV b)] ?_
 refine yA ?_
 refine yCl 16 Tryz.call70 (tall1_ht b) h13 ?_
 rintro v K w16 (⟨b15, rfl, rfl⟩) h17
 refine ⟨_, rfl, ?_⟩
 have h18 := ap1 h17
 refine PO.mk ?_
 refine yK [(0, pV b), (1, iV vn), (3, pV r1), (4, .slice none 0 0), (5, iV 0), (6, iV 0), (7, pV r11), (13, .bool false), (16, .func (Fn.func 89) #[] #[pV b15])] fun lr19 => ?_
 refine yBk 0 ?_
 have hal_ : (allE E).length ≤ 256 := cntE_le E 256
 have h25 : sat g w16 [Sl 25 3 none 0 0 (fl eO []), Cl b15 [pV b] 28, Cl r11 [.slice none 0 0] 48, Tab b n A E RL, Cl r1 [iV vn] 3, R] := sl_nil 25 3 h18
 have h26 := tk6 (sf5 (sf4 (sf3 (sf3 (sf4 (sf5 h25))))))
 refine gi_rf2 (x := (Operand.tmp 16)) (ps := #[17]) (asg := CA Tryz.f46 [1, 1, 1, 0, 1, 0, 1]) (bd := CA Tryz.f46 [1, 1, 1, 0, 1, 0, 0]) (gf := 89) (cap := [pV b15]) (N := ((allE E).length)) (xs := fun i => [.agg #[iV (((allE E).getD i noE).d.1), iV (((allE E).getD i noE).d.2.1), uV (((allE E).getD i noE).d.2.2), iV (((allE E).getD i noE).num), iV (((allE E).getD i noE).h.1), uV (((allE E).getD i noE).h.2)]]) (At := [Cl b15 [pV b] 28, Tab b n A E RL]) (K0 := [Cl r1 [iV vn] 3, Cl r11 [.slice none 0 0] 48, Sl 25 3 none 0 0 (fl eO [])]) (L := [R]) (fun i => [(17, .agg #[iV (((allE E).getD i noE).d.1), iV (((allE E).getD i noE).d.2.1), uV (((allE E).getD i noE).d.2.2), iV (((allE E).getD i noE).num), iV (((allE E).getD i noE).h.1), uV (((allE E).getD i noE).h.2)])] ++ (([(0, pV b), (1, iV vn), (3, pV r1), (4, .slice none 0 0), (5, iV 0), (6, iV 0), (7, pV r11), (13, .bool false), (16, .func (Fn.func 89) #[] #[pV b15])] : Fr) ++ lr19)) (fun i rb_ => ([(8, pV rb_), (17, .agg #[iV (((allE E).getD i noE).d.1), iV (((allE E).getD i noE).d.2.1), uV (((allE E).getD i noE).d.2.2), iV (((allE E).getD i noE).num), iV (((allE E).getD i noE).h.1), uV (((allE E).getD i noE).h.2)])] : Fr) ++ (([(0, pV b), (1, iV vn), (3, pV r1), (4, .slice none 0 0), (5, iV 0), (6, iV 0), (7, pV r11), (13, .bool false), (16, .func (Fn.func 89) #[] #[pV b15])] : Fr) ++ lr19)) (fun i rb_ K => ∃ p : Option Addr, ∃ k : Nat, ∃ c : Nat, (k ≤ i) ∧ K = [Cl rb_ [iV (((allE E).getD i noE).d.1), iV (((allE E).getD i noE).d.2.1), uV (((allE E).getD i noE).d.2.2), iV (((allE E).getD i noE).num), iV (((allE E).getD i noE).h.1), uV (((allE E).getD i noE).h.2)] 89, Cl r1 [iV vn] 3, Cl r11 [.slice p k c] 48, Sl 25 3 p k c (fl eO (descT E vn i))]) (fun i K => ∃ p : Option Addr, ∃ k : Nat, ∃ c : Nat, (k ≤ i) ∧ K = [Cl r1 [iV vn] 3, Cl r11 [.slice p k c] 48, Sl 25 3 p k c (fl eO (descT E vn i))]) (fun c i K => False) (by kernel_rfl) (by kernel_rfl) Tryz.call89 (tall_it b15 b n A E RL) ⟨none, 0, 0, (Nat.le_refl _), rfl⟩ h26 (fun _ _ => rfl) (fun _ _ => rf_frame1 rfl) ?_ ?_ ?_ ?_
 ·
  rintro i hi_ lp_ w27 K_ G ⟨p, k, c, hk_, rfl⟩ h28
  have h29 : sat g w27 [Cl r1 [iV vn] 3, Cl r11 [.slice p k c] 48, Sl 25 3 p k c (fl eO (descT E vn i)), Cl b15 [pV b] 28, Tab b n A E RL, G] := h28
  change WP _ _ (CA Tryz.f46 [1, 1, 1, 0, 1, 0, 1]) _ (mk 28 (([(17, .agg #[iV (((allE E).getD i noE).d.1), iV (((allE E).getD i noE).d.2.1), uV (((allE E).getD i noE).d.2.2), iV (((allE E).getD i noE).num), iV (((allE E).getD i noE).h.1), uV (((allE E).getD i noE).h.2)]), (0, pV b), (1, iV vn), (3, pV r1), (4, .slice none 0 0), (5, iV 0), (6, iV 0), (7, pV r11), (13, .bool false), (16, .func (Fn.func 89) #[] #[pV b15])] : Fr) ++ lr19)) _
  refine yPl [0, 1] ?_
  refine yA ?_
  refine yNp 8 89 [iV 0, iV 0, uV 0, iV 0, iV 0, uV 0] h29 fun r30 w31 h32 => ?_
  refine yA ?_
  refine yS [(0, iV (((allE E).getD i noE).d.1)), (1, iV (((allE E).getD i noE).d.2.1)), (2, uV (((allE E).getD i noE).d.2.2)), (3, iV (((allE E).getD i noE).num)), (4, iV (((allE E).getD i noE).h.1)), (5, uV (((allE E).getD i noE).h.2))] [iV (((allE E).getD i noE).d.1), iV (((allE E).getD i noE).d.2.1), uV (((allE E).getD i noE).d.2.2), iV (((allE E).getD i noE).num), iV (((allE E).getD i noE).h.1), uV (((allE E).getD i noE).h.2)] h32 fun w33 h34 => ?_
  refine PO.mk ?_
  repeat (first | simp only [Exit.inBlock] | simp only [Exit.then])
  exact ⟨r30, _, rfl, ⟨p, k, c, hk_, rfl⟩, h34⟩
 ·
  rintro i hi37 lp_ w35 rb_ K_ G ⟨p, k, c, hk_, rfl⟩ h36
  have h38 : sat g w35 [Cl rb_ [iV (((allE E).getD i noE).d.1), iV (((allE E).getD i noE).d.2.1), uV (((allE E).getD i noE).d.2.2), iV (((allE E).getD i noE).num), iV (((allE E).getD i noE).h.1), uV (((allE E).getD i noE).h.2)] 89, Cl r1 [iV vn] 3, Cl r11 [.slice p k c] 48, Sl 25 3 p k c (fl eO (descT E vn i)), Cl b15 [pV b] 28, Tab b n A E RL, G] := h36
  change WP _ _ (CA Tryz.f46 [1, 1, 1, 0, 1, 0, 0]) _ (mk 28 (([(8, pV rb_), (17, .agg #[iV (((allE E).getD i noE).d.1), iV (((allE E).getD i noE).d.2.1), uV (((allE E).getD i noE).d.2.2), iV (((allE E).getD i noE).num), iV (((allE E).getD i noE).h.1), uV (((allE E).getD i noE).h.2)]), (0, pV b), (1, iV vn), (3, pV r1), (4, .slice none 0 0), (5, iV 0), (6, iV 0), (7, pV r11), (13, .bool false), (16, .func (Fn.func 89) #[] #[pV b15])] : Fr) ++ lr19)) _
  refine yBk 1 ?_
  refine ySq ?_
  refine yPl [0, 1, 2, 3] ?_
  refine yBb [3] [(20, iV vn), (19, iV (((allE E).getD i noE).num)), (18, .pointer (some ⟨rb_, 3, none⟩))] [e0 0, e2 1 [iV (((allE E).getD i noE).num)], e2 2 [iV vn]] [(2, ⟨r1, 0, none⟩, iV vn), (1, ⟨rb_, 3, none⟩, iV (((allE E).getD i noE).num))] [] trivial (kC (sat_cell h38 1 rfl rfl) (kC (sat_cell h38 0 rfl rfl) nC)) ?_
  by_cases c39 : ((allE E).getD i noE).num = vn
  ·
   refine yBb [] [(21, .bool true)] [e1 3 (.bool true)] [] [(.bool ((((allE E).getD i noE).num) == vn), .bool true)] ⟨(ov_et (by omega)), trivial⟩ nC (.mk ?_)
   refine yK [(0, pV b), (1, iV vn), (3, pV r1), (4, .slice none 0 0), (5, iV 0), (6, iV 0), (7, pV r11), (8, pV rb_), (13, .bool false), (16, .func (Fn.func 89) #[] #[pV b15]), (17, .agg #[iV (((allE E).getD i noE).d.1), iV (((allE E).getD i noE).d.2.1), uV (((allE E).getD i noE).d.2.2), iV (((allE E).getD i noE).num), iV (((allE E).getD i noE).h.1), uV (((allE E).getD i noE).h.2)]), (21, .bool true)] fun lr40 => ?_
   refine yCt ?_
   refine yPl [0, 1, 2, 3, 4, 5] ?_
   refine yBb [3, 4, 5] [(24, .agg #[iV (((allE E).getD i noE).d.1), iV (((allE E).getD i noE).d.2.1), uV (((allE E).getD i noE).d.2.2)]), (23, pV rb_), (22, .slice p k c)] [e2 0 [.slice p k c], e0 1, e2 2 [iV (((allE E).getD i noE).d.1), iV (((allE E).getD i noE).d.2.1), uV (((allE E).getD i noE).d.2.2)]] [(2, ⟨rb_, 0, none⟩, iV (((allE E).getD i noE).d.1)), (2, ⟨rb_, 1, none⟩, iV (((allE E).getD i noE).d.2.1)), (2, ⟨rb_, 2, none⟩, uV (((allE E).getD i noE).d.2.2)), (0, ⟨r11, 0, none⟩, .slice p k c)] [] trivial (kC (sat_cell h38 0 rfl rfl) (kC (sat_cell h38 0 rfl rfl) (kC (sat_cell h38 0 rfl rfl) (kC (sat_cell h38 2 rfl rfl) nC)))) ?_
   refine yA ?_
   refine an_new (d := 25) (fun xb_ => .slice (some ⟨xb_, 0, none⟩) 1 1) (fun xb_ => Obj.cells [iV (((allE E).getD i noE).d.1), iV (((allE E).getD i noE).d.2.1), uV (((allE E).getD i noE).d.2.2)].toArray 25 (0, 0)) (fun xb_ => by kernel_rfl) (by kernel_rfl) rfl h38 ?_
   intro r41 w42 (h43 : sat g w42 [Cl r41 [iV (((allE E).getD i noE).d.1), iV (((allE E).getD i noE).d.2.1), uV (((allE E).getD i noE).d.2.2)] 25, Cl rb_ [iV (((allE E).getD i noE).d.1), iV (((allE E).getD i noE).d.2.1), uV (((allE E).getD i noE).d.2.2), iV (((allE E).getD i noE).num), iV (((allE E).getD i noE).h.1), uV (((allE E).getD i noE).h.2)] 89, Cl r1 [iV vn] 3, Cl r11 [.slice p k c] 48, Sl 25 3 p k c (fl eO (descT E vn i)), Cl b15 [pV b] 28, Tab b n A E RL, G])
   have h44 := tk8 (sf7 (sf6 (sf6 (sf6 (sf6 (sf7 (sf7 (sf7 h43))))))))
   refine yA ?_
   refine an_append (d := 26) (sz := 3) (s := (Operand.tmp 22)) (x := (Operand.tmp 25)) (z := .agg #[iV 0, iV 0, uV 0]) (p := p) (m := k) (c := c) (k := 1) (c2 := 1) (a := ⟨r41, 0, none⟩) (by_ := 24) (by kernel_rfl) (by kernel_rfl) rfl Tryz.underlying48 (by kernel_rfl) rfl (by decide) (by kernel_rfl) (by kernel_rfl) h44 (fl eO [(((allE E).getD i noE).d.1, ((allE E).getD i noE).d.2.1, ((allE E).getD i noE).d.2.2)]) rfl (fun j u hj => by rw [add_off]; exact sat_cell h44 1 rfl (by rw [Nat.zero_add]; exact hj)) (fl_one eO_ok _) (by omega) (by omega) (k + 1) (by omega) ?_
   intro p45 cap46 w47 h48
   have h49 : sat g w47 [Sl 25 3 p45 (k + 1) cap46 (fl eO ((descT E vn i) ++ [(((allE E).getD i noE).d.1, ((allE E).getD i noE).d.2.1, ((allE E).getD i noE).d.2.2)])), Cl r41 [iV (((allE E).getD i noE).d.1), iV (((allE E).getD i noE).d.2.1), uV (((allE E).getD i noE).d.2.2)] 25, Cl rb_ [iV (((allE E).getD i noE).d.1), iV (((allE E).getD i noE).d.2.1), uV (((allE E).getD i noE).d.2.2), iV (((allE E).getD i noE).num), iV (((allE E).getD i noE).h.1), uV (((allE E).getD i noE).h.2)] 89, Cl r1 [iV vn] 3, Cl r11 [.slice p k c] 48, Cl b15 [pV b] 28, Tab b n A E RL, G] := sat_imp h48 (fun _ hh => by rw [fl_app]; exact hh)
   obtain ⟨hn50, hn51⟩ := sl_le h49
   have h52 := tk8 (sf7 (sf6 (sf6 (sf6 (sf6 (sf7 (sf7 (sf7 h49))))))))
   refine yA ?_
   refine yS [(0, .slice p45 (k + 1) cap46)] [.slice p45 (k + 1) cap46] h52 fun w53 h54 => ?_
   refine PO.mk ?_
   repeat (first | simp only [Exit.inBlock] | simp only [Exit.then])
   have h55 := tk8 (sf7 (sf6 (sf7 (sf7 (sf7 (sf7 (sf7 (sf7 h54))))))))
   have h56 : sat g w53 [Sl 25 3 p45 (k + 1) cap46 (fl eO (descT E vn (i + 1))), Cl r11 [.slice p45 (k + 1) cap46] 48, Cl r41 [iV (((allE E).getD i noE).d.1), iV (((allE E).getD i noE).d.2.1), uV (((allE E).getD i noE).d.2.2)] 25, Cl rb_ [iV (((allE E).getD i noE).d.1), iV (((allE E).getD i noE).d.2.1), uV (((allE E).getD i noE).d.2.2), iV (((allE E).getD i noE).num), iV (((allE E).getD i noE).h.1), uV (((allE E).getD i noE).h.2)] 89, Cl r1 [iV vn] 3, Cl b15 [pV b] 28, Tab b n A E RL, G] := sat_imp h55 (fun _ hh_ => by rw [show (((descT E vn i) ++ [(((allE E).getD i noE).d.1, ((allE E).getD i noE).d.2.1, ((allE E).getD i noE).d.2.2)]) : List Ky) = (descT E vn (i + 1)) from descT_go hi37 (by omega)] at hh_; exact hh_)
   have h57 := tk8 (sf7 (sf6 (sf5 (sf7 (sf7 (sf7 (sf3 (sf3 h56))))))))
   have h58 := tk6 h57
   exact ⟨_, ⟨p45, k + 1, cap46, (by omega), rfl⟩, h58⟩
  ·
   refine yBb [] [(21, .bool false)] [e1 3 (.bool false)] [] [(.bool ((((allE E).getD i noE).num) == vn), .bool false)] ⟨(ov_ef (by omega)), trivial⟩ nC (.mk ?_)
   refine yK [(0, pV b), (1, iV vn), (3, pV r1), (4, .slice none 0 0), (5, iV 0), (6, iV 0), (7, pV r11), (8, pV rb_), (13, .bool false), (16, .func (Fn.func 89) #[] #[pV b15]), (17, .agg #[iV (((allE E).getD i noE).d.1), iV (((allE E).getD i noE).d.2.1), uV (((allE E).getD i noE).d.2.2), iV (((allE E).getD i noE).num), iV (((allE E).getD i noE).h.1), uV (((allE E).getD i noE).h.2)]), (21, .bool false)] fun lr59 => ?_
   refine yCf ?_
   refine ySk ?_
   repeat (first | simp only [Exit.inBlock] | simp only [Exit.then])
   have h60 := tk7 (sf6 (sf5 (sf5 (sf5 (sf6 (sf6 (sf6 h38)))))))
   have h61 : sat g w35 [Sl 25 3 p k c (fl eO (descT E vn (i + 1))), Cl rb_ [iV (((allE E).getD i noE).d.1), iV (((allE E).getD i noE).d.2.1), uV (((allE E).getD i noE).d.2.2), iV (((allE E).getD i noE).num), iV (((allE E).getD i noE).h.1), uV (((allE E).getD i noE).h.2)] 89, Cl r1 [iV vn] 3, Cl r11 [.slice p k c] 48, Cl b15 [pV b] 28, Tab b n A E RL, G] := sat_imp h60 (fun _ hh_ => by rw [show ((descT E vn i) : List Ky) = (descT E vn (i + 1)) from descT_no hi37 (by omega)] at hh_; exact hh_)
   have h62 := tk7 (sf6 (sf6 (sf4 (sf6 (sf6 (sf6 (sf1 h61)))))))
   have h63 := tk6 h62
   exact ⟨_, ⟨p, k, c, (by omega), rfl⟩, h63⟩
 ·
  rintro D64 w65 K_ ⟨p, k, c, hk_, rfl⟩ h66
  have h67 : sat g w65 [pt D64 (Obj.deferred (some [])), Cl r1 [iV vn] 3, Cl r11 [.slice p k c] 48, Sl 25 3 p k c (fl eO (descT E vn (((allE E).length)))), Cl b15 [pV b] 28, Tab b n A E RL, R] := h66
  refine yK [(7, pV r11)] fun lr68 => ?_
  refine ySq ?_
  refine yPl [0, 1, 2] ?_
  refine yBb [] [(5, iV 0), (4, .slice p k c), (27, .slice p k c)] [e2 0 [.slice p k c], e0 1, e0 2] [(0, ⟨r11, 0, none⟩, .slice p k c)] [] trivial (kC (sat_cell h67 2 rfl rfl) nC) (.mk ?_)
  refine yK [(4, .slice p k c), (5, iV 0)] fun lr69 => ?_
  refine yRt ?_
  repeat (first | simp only [Exit.inBlock] | simp only [Exit.then])
  have h70 := tk7 (sf6 (sf5 (sf5 (sf5 (sf6 (sf6 (sf6 h67)))))))
  have h71 : sat g w65 [Sl 25 3 p k c (fl eO (descs E vn)), pt D64 (Obj.deferred (some [])), Cl r1 [iV vn] 3, Cl r11 [.slice p k c] 48, Cl b15 [pV b] 28, Tab b n A E RL, R] := sat_imp h70 (fun _ hh_ => by rw [show ((descT E vn (((allE E).length))) : List Ky) = (descs E vn) from descT_all E vn] at hh_; exact hh_)
  have hl72 := fl_n eO_ok (by decide) h71
  have h73 : sat g w65 [Sl 25 3 p (((descs E vn).length)) c (fl eO (descs E vn)), pt D64 (Obj.deferred (some [])), Cl r1 [iV vn] 3, Cl r11 [.slice p k c] 48, Cl b15 [pV b] 28, Tab b n A E RL, R] := sat_imp h71 (fun _ hh_ => by rw [hl72]; exact hh_)
  have h74 := tk7 (sf6 (sf5 (sf6 (sf6 (sf6 (sf6 (sf6 h73)))))))
  refine hi_out1 h74 [] (.tuple #[.slice p k c, iV 0]) [] (by kernel_rfl) (fun w76 h75 => ⟨?_, ?_⟩)
  · exact (by intro q hq; cases hq)
  ·
   have h77 : sat g w76 [pt D64 (Obj.deferred none), Sl 25 3 p (((descs E vn).length)) c (fl eO (descs E vn)), Cl r1 [iV vn] 3, Cl r11 [.slice p k c] 48, Cl b15 [pV b] 28, Tab b n A E RL, R] := h75
   have h78 := tk7 (sf6 (sf5 (sf4 (sf5 (sf5 (sf5 (sf6 h77)))))))
   have h79 := tk3 (sf2 (sf2 (sf6 h78)))
   exact ⟨.tuple #[.slice p k c, iV 0], [Tab b n A E RL, Sl 25 3 p (((descs E vn).length)) c (fl eO (descs E vn))], rfl, ⟨p, c, by rw [hl72], rfl⟩, h79⟩
 ·
  intro _ _ _ _ _ _ hf_; exact hf_.elim

set_option maxHeartbeats 4000000 in
theorem tdescs_no (b n : Nat) (A : List Sl2) (E : Tm) (RL : List Rs) (vn : Int) (h : vn < 1 ∨ (RL.length : Int) < vn) : HT Tryz.prog 46 [Value.pointer (some ⟨b, 0, none⟩), Value.int IntKind.i64 vn] [Tab b n A E RL] (fun v K => v = Value.tuple #[Value.slice none 0 0, Value.int IntKind.i64 3] ∧ K = [Tab b n A E RL]) := by
 refine hi_in 28 ([(0, pV b), (1, iV vn)] : Fr) Tryz.func46 (by kernel_rfl) Tryz.ntmps46 rfl rfl ?_
 intro g w0 R h0
 refine ySq ?_
 refine yPl [0, 1, 2] ?_
 refine yA ?_
 refine yNp 3 3 [iV vn] h0 fun r1 w2 h3 => ?_
 refine yB0 [] [1, 2] [(5, iV 0), (4, .slice none 0 0)] (.mk ?_)
 refine yK [(0, pV b), (1, iV vn), (3, pV r1), (4, .slice none 0 0), (5, iV 0)] fun lr4 => ?_
 refine ySq ?_
 refine ySq ?_
 refine yPl [0, 1, 2, 3] ?_
 refine yBb [2, 3] [(10, iV vn), (9, pV b)] [e0 0, e2 1 [iV vn]] [(1, ⟨r1, 0, none⟩, iV vn)] [] trivial (kC (sat_cell h3 0 rfl rfl) nC) ?_
 by_cases c5 : 1 ≤ vn
 ·
  have h6 := tk3 (sf2 (sf1 (sf2 h3)))
  refine yA ?_
  refine yCl 11 Tryz.call79 (tcheck_no b n A E RL vn (by omega)) h6 ?_
  rintro v K w7 (⟨rfl, rfl⟩) h8
  refine ⟨_, rfl, ?_⟩
  have h9 := ap1 h8
  refine yB0 [] [3] [(6, iV 3)] (.mk ?_)
  refine yK [(0, pV b), (1, iV vn), (3, pV r1), (4, .slice none 0 0), (5, iV 0), (6, iV 3)] fun lr10 => ?_
  refine ySq ?_
  refine yPl [0, 1] ?_
  refine yB0 [] [0, 1] [(13, .bool true), (12, iV 3)] (.mk ?_)
  refine yK [(0, pV b), (1, iV vn), (3, pV r1), (4, .slice none 0 0), (5, iV 0), (6, iV 3), (13, .bool true)] fun lr11 => ?_
  refine yCt ?_
  refine ySq ?_
  refine yPl [0, 1, 2] ?_
  refine yB0 [] [0, 1, 2] [(5, iV 3), (4, .slice none 0 0), (14, iV 3)] (.mk ?_)
  refine yK [(4, .slice none 0 0), (5, iV 3)] fun lr12 => ?_
  refine yRt ?_
  repeat (first | simp only [Exit.inBlock] | simp only [Exit.then])
  have h13 := tk2 (sf1 (sf2 h9))
  refine hi_out [] (.tuple #[.slice none 0 0, iV 3]) [] (by kernel_rfl) (by intro q hq; cases hq) ?_
  exact ⟨.tuple #[.slice none 0 0, iV 3], [Tab b n A E RL], rfl, ⟨rfl, rfl⟩, h13⟩
 ·
  have h14 := tk3 (sf2 (sf1 (sf2 h3)))
  refine yA ?_
  refine yCl 11 Tryz.call79 (tcheck_no b n A E RL vn (by omega)) h14 ?_
  rintro v K w15 (⟨rfl, rfl⟩) h16
  refine ⟨_, rfl, ?_⟩
  have h17 := ap1 h16
  refine yB0 [] [3] [(6, iV 3)] (.mk ?_)
  refine yK [(0, pV b), (1, iV vn), (3, pV r1), (4, .slice none 0 0), (5, iV 0), (6, iV 3)] fun lr18 => ?_
  refine ySq ?_
  refine yPl [0, 1] ?_
  refine yB0 [] [0, 1] [(13, .bool true), (12, iV 3)] (.mk ?_)
  refine yK [(0, pV b), (1, iV vn), (3, pV r1), (4, .slice none 0 0), (5, iV 0), (6, iV 3), (13, .bool true)] fun lr19 => ?_
  refine yCt ?_
  refine ySq ?_
  refine yPl [0, 1, 2] ?_
  refine yB0 [] [0, 1, 2] [(5, iV 3), (4, .slice none 0 0), (14, iV 3)] (.mk ?_)
  refine yK [(4, .slice none 0 0), (5, iV 3)] fun lr20 => ?_
  refine yRt ?_
  repeat (first | simp only [Exit.inBlock] | simp only [Exit.then])
  have h21 := tk2 (sf1 (sf2 h17))
  refine hi_out [] (.tuple #[.slice none 0 0, iV 3]) [] (by kernel_rfl) (by intro q hq; cases hq) ?_
  exact ⟨.tuple #[.slice none 0 0, iV 3], [Tab b n A E RL], rfl, ⟨rfl, rfl⟩, h21⟩

set_option maxHeartbeats 4000000 in
theorem tdescs_n (vn : Int) : HT Tryz.prog 46 [Value.pointer none, Value.int IntKind.i64 vn] [] (fun v K => v = Value.tuple #[Value.slice none 0 0, Value.int IntKind.i64 1] ∧ K = []) := by
 refine hi_in 28 ([(0, .pointer none), (1, iV vn)] : Fr) Tryz.func46 (by kernel_rfl) Tryz.ntmps46 rfl rfl ?_
 intro g w0 R h0
 refine ySq ?_
 refine yPl [0, 1, 2] ?_
 refine yA ?_
 refine yNp 3 3 [iV vn] h0 fun r1 w2 h3 => ?_
 refine yB0 [] [1, 2] [(5, iV 0), (4, .slice none 0 0)] (.mk ?_)
 refine yK [(0, .pointer none), (1, iV vn), (3, pV r1), (4, .slice none 0 0), (5, iV 0)] fun lr4 => ?_
 refine ySq ?_
 refine ySq ?_
 refine yPl [0, 1, 2, 3] ?_
 refine yBb [2, 3] [(10, iV vn), (9, .pointer none)] [e0 0, e2 1 [iV vn]] [(1, ⟨r1, 0, none⟩, iV vn)] [] trivial (kC (sat_cell h3 0 rfl rfl) nC) ?_
 refine yA ?_
 refine yCl 11 Tryz.call79 (tcheck_n vn) h3 ?_
 rintro v K w5 (⟨rfl, rfl⟩) h6
 refine ⟨_, rfl, ?_⟩
 have h7 := ap0 h6
 refine yB0 [] [3] [(6, iV 1)] (.mk ?_)
 refine yK [(0, .pointer none), (1, iV vn), (3, pV r1), (4, .slice none 0 0), (5, iV 0), (6, iV 1)] fun lr8 => ?_
 refine ySq ?_
 refine yPl [0, 1] ?_
 refine yB0 [] [0, 1] [(13, .bool true), (12, iV 1)] (.mk ?_)
 refine yK [(0, .pointer none), (1, iV vn), (3, pV r1), (4, .slice none 0 0), (5, iV 0), (6, iV 1), (13, .bool true)] fun lr9 => ?_
 refine yCt ?_
 refine ySq ?_
 refine yPl [0, 1, 2] ?_
 refine yB0 [] [0, 1, 2] [(5, iV 1), (4, .slice none 0 0), (14, iV 1)] (.mk ?_)
 refine yK [(4, .slice none 0 0), (5, iV 1)] fun lr10 => ?_
 refine yRt ?_
 repeat (first | simp only [Exit.inBlock] | simp only [Exit.then])
 have h11 := tk1 (sf1 h7)
 refine hi_out [] (.tuple #[.slice none 0 0, iV 1]) [] (by kernel_rfl) (by intro q hq; cases hq) ?_
 exact ⟨.tuple #[.slice none 0 0, iV 1], [], rfl, ⟨rfl, rfl⟩, h11⟩

end Go.Proofs.YtjjpmehiolejgaaGreat

/- Walks, printed by my generator ../tab/gen14.py. -/
namespace Go.Proofs.YtjjpmehiolejgaaGreat
theorem thas_t (b n : Nat) (A : List Sl2) (E : Tm) (RL : List Rs) (hx hy : Int) (h : ∃ e ∈ allE E, e.h = (hx, hy)) : HT Tryz.prog 34 [Value.pointer (some ⟨b, 0, none⟩), Value.agg #[Value.int IntKind.i64 hx, Value.int IntKind.u32 hy]] [Tab b n A E RL] (fun v K => v = Value.bool true ∧ K = [Tab b n A E RL]) :=
  (thas_ht b n A E RL hx hy).mono fun v K hP => by
    rcases hP with ⟨hv, h1, hK⟩ | ⟨hv, h1, hK⟩
    · exact ⟨hv, hK⟩
    · obtain ⟨e, he, h2⟩ := h; exact absurd h2 (h1 e he)
theorem thas_f (b n : Nat) (A : List Sl2) (E : Tm) (RL : List Rs) (hx hy : Int) (h : ∀ e ∈ allE E, e.h ≠ (hx, hy)) : HT Tryz.prog 34 [Value.pointer (some ⟨b, 0, none⟩), Value.agg #[Value.int IntKind.i64 hx, Value.int IntKind.u32 hy]] [Tab b n A E RL] (fun v K => v = Value.bool false ∧ K = [Tab b n A E RL]) :=
  (thas_ht b n A E RL hx hy).mono fun v K hP => by
    rcases hP with ⟨hv, h1, hK⟩ | ⟨hv, h1, hK⟩
    · obtain ⟨e, he, h1⟩ := h1; exact absurd h1 (h e he)
    · exact ⟨hv, hK⟩
theorem ne_trip {p : Ky} {a b c : Int} (h : ¬ (p.1 = a ∧ p.2.1 = b ∧ p.2.2 = c)) : p ≠ (a, b, c) := by
  rintro rfl
  exact h ⟨rfl, rfl, rfl⟩
theorem ridx_go {L : List Rs} {k : Nat} {P : Rs → Prop} {x : Rs} (h : ∀ (j : Nat) (o : Rs), j < k → L[j]? = some o → P o) (hx : L[k]? = some x) (hp : P x) : ∀ (j : Nat) (o : Rs), j < k + 1 → L[j]? = some o → P o := fun j o hj ho => by
  rcases Nat.lt_succ_iff_lt_or_eq.1 hj with h1 | rfl
  · exact h j o h1 ho
  · rw [hx] at ho
    obtain rfl := Option.some.inj ho
    exact hp
theorem rall_idx {L : List Rs} {k : Nat} {P : Rs → Prop} (h : ∀ (j : Nat) (o : Rs), j < k → L[j]? = some o → P o) (hk : L.length ≤ k) : ∀ o ∈ L, P o := fun o ho => by
  obtain ⟨j, hj⟩ := List.getElem?_of_mem ho
  exact h j o (Nat.lt_of_lt_of_le (List.getElem?_eq_some_iff.1 hj).1 hk) hj
theorem seq36_eql_t {n : Nat} {l : Fr} {o : Oper} {x y : Operand} (a0 : Int) (a1 : Int) (a2 : Int) (c0 : Int) (c1 : Int) (c2 : Int) (ho : o.op = .binOp .eql 36 x y 36) (hx : fe n l x = .agg #[.int .i64 a0, .int .i64 a1, .int .u32 a2]) (hy : fe n l y = .agg #[.int .i64 c0, .int .i64 c1, .int .u32 c2]) (h : a0 = c0 ∧ a1 = c1 ∧ a2 = c2) (w : World) : (execOp (fe n l) o).run Tryz.prog w = .ok (.value (.bool true)) w := by
  obtain ⟨rfl, rfl, rfl⟩ := h
  simp [execOp, ho, hx, hy, go_sem]
theorem seq36_eql_f {n : Nat} {l : Fr} {o : Oper} {x y : Operand} (a0 : Int) (a1 : Int) (a2 : Int) (c0 : Int) (c1 : Int) (c2 : Int) (ho : o.op = .binOp .eql 36 x y 36) (hx : fe n l x = .agg #[.int .i64 a0, .int .i64 a1, .int .u32 a2]) (hy : fe n l y = .agg #[.int .i64 c0, .int .i64 c1, .int .u32 c2]) (h : ¬ (a0 = c0 ∧ a1 = c1 ∧ a2 = c2)) (w : World) : (execOp (fe n l) o).run Tryz.prog w = .ok (.value (.bool false)) w := by
  by_cases h0 : a0 = c0
  · skip
    by_cases h1 : a1 = c1
    · skip
      by_cases h2 : a2 = c2
      · exact absurd ⟨h0, h1, h2⟩ h
      · simp [execOp, ho, hx, hy, go_sem, h0, h1, h2]
    · simp [execOp, ho, hx, hy, go_sem, h0, h1]
  · simp [execOp, ho, hx, hy, go_sem, h0]
set_option maxHeartbeats 4000000 in
theorem op1_t (b : Nat) (u1 u2 u3 s1 s2 s3 s4 : Int) (tg : List UInt8) (x y z : Int) (h : u1 = x ∧ u2 = y ∧ u3 = z) : HT Tryz.prog 33 [Value.agg #[Value.int IntKind.i64 u1, Value.int IntKind.i64 u2, Value.int IntKind.u32 u3, Value.int IntKind.i64 s1, Value.int IntKind.i64 s2, Value.int IntKind.i64 s3, Value.int IntKind.i64 s4, Value.string (St tg)], Value.pointer (some ⟨b, 0, none⟩)] [Cl b [Value.int IntKind.i64 x, Value.int IntKind.i64 y, Value.int IntKind.u32 z] 36] (fun v K => v = Value.bool true ∧ K = [Cl b [Value.int IntKind.i64 x, Value.int IntKind.i64 y, Value.int IntKind.u32 z] 36]) := by
 refine hiS Tryz.func33 Tryz.ntmps33 fun g w0 R h0 => go [] <| nP 40 [iV u1, iV u2, uV u3, iV s1, iV s2, iV s3, iV s4, .string (St tg)] h0 (fun r10 w11 h12 => ?_)
 refine go [rd 1 1 0 0 3 h12, rd 1 2 1 0 3 h12, .s 1 3] <| lwP (.bool true) (seq36_eql_t (x := (Operand.tmp 5)) (y := (Operand.tmp 6)) u1 u2 u3 x y z (by kernel_rfl) (by kernel_rfl) (by kernel_rfl) ⟨(by omega), (by omega), (by omega)⟩ _) <| go [] ?_
 exact en (.bool true) [] ⟨_, _, rfl, ⟨rfl, rfl⟩, (tk2 (sf1 (sf2 (tk3 (sf2 (sf1 (sf2 h12)))))))⟩

set_option maxHeartbeats 4000000 in
theorem op1_f (b : Nat) (u1 u2 u3 s1 s2 s3 s4 : Int) (tg : List UInt8) (x y z : Int) (h : ¬ (u1 = x ∧ u2 = y ∧ u3 = z)) : HT Tryz.prog 33 [Value.agg #[Value.int IntKind.i64 u1, Value.int IntKind.i64 u2, Value.int IntKind.u32 u3, Value.int IntKind.i64 s1, Value.int IntKind.i64 s2, Value.int IntKind.i64 s3, Value.int IntKind.i64 s4, Value.string (St tg)], Value.pointer (some ⟨b, 0, none⟩)] [Cl b [Value.int IntKind.i64 x, Value.int IntKind.i64 y, Value.int IntKind.u32 z] 36] (fun v K => v = Value.bool false ∧ K = [Cl b [Value.int IntKind.i64 x, Value.int IntKind.i64 y, Value.int IntKind.u32 z] 36]) := by
 refine hiS Tryz.func33 Tryz.ntmps33 fun g w0 R h0 => go [] <| nP 40 [iV u1, iV u2, uV u3, iV s1, iV s2, iV s3, iV s4, .string (St tg)] h0 (fun r10 w11 h12 => ?_)
 refine go [rd 1 1 0 0 3 h12, rd 1 2 1 0 3 h12, .s 1 3] ?_
 by_cases c13 : u1 = x
 ·
  by_cases c14 : u2 = y
  ·
   refine lwP (.bool false) (seq36_eql_f (x := (Operand.tmp 5)) (y := (Operand.tmp 6)) u1 u2 u3 x y z (by kernel_rfl) (by kernel_rfl) (by kernel_rfl) (by omega) _) <| go [] ?_
   exact en (.bool false) [] ⟨_, _, rfl, ⟨rfl, rfl⟩, (tk2 (sf1 (sf2 (tk3 (sf2 (sf1 (sf2 h12)))))))⟩
  refine lwP (.bool false) (seq36_eql_f (x := (Operand.tmp 5)) (y := (Operand.tmp 6)) u1 u2 u3 x y z (by kernel_rfl) (by kernel_rfl) (by kernel_rfl) (by omega) _) <| go [] ?_
  exact en (.bool false) [] ⟨_, _, rfl, ⟨rfl, rfl⟩, (tk2 (sf1 (sf2 (tk3 (sf2 (sf1 (sf2 h12)))))))⟩
 refine lwP (.bool false) (seq36_eql_f (x := (Operand.tmp 5)) (y := (Operand.tmp 6)) u1 u2 u3 x y z (by kernel_rfl) (by kernel_rfl) (by kernel_rfl) (by omega) _) <| go [] ?_
 exact en (.bool false) [] ⟨_, _, rfl, ⟨rfl, rfl⟩, (tk2 (sf1 (sf2 (tk3 (sf2 (sf1 (sf2 h12)))))))⟩

set_option maxHeartbeats 4000000 in
theorem r_index (p : Option Addr) (m c b : Nat) (L : List Rs) (x y z : Int) (hm : m ≤ 1000000) : HT Tryz.prog 69 [Value.slice p m c, Value.func (Fn.func 33) #[] #[Value.pointer (some ⟨b, 0, none⟩)]] [Sl 40 8 p m c (fl eRs L), Cl b [Value.int IntKind.i64 x, Value.int IntKind.i64 y, Value.int IntKind.u32 z] 36] (fun v K => (∃ k : Nat, v = Value.int .i64 (k : Int) ∧ (∃ r ∈ L, r.out = (x, y, z)) ∧ K = [Sl 40 8 p m c (fl eRs L), Cl b [Value.int IntKind.i64 x, Value.int IntKind.i64 y, Value.int IntKind.u32 z] 36]) ∨ (v = Value.int .i64 (-1) ∧ (∀ r ∈ L, r.out ≠ (x, y, z)) ∧ K = [Sl 40 8 p m c (fl eRs L), Cl b [Value.int IntKind.i64 x, Value.int IntKind.i64 y, Value.int IntKind.u32 z] 36])) := by
 refine hiS Tryz.func69 Tryz.ntmps69 fun g w0 R h0 => go [] ?_
 have hl10 := fl_n eRs_ok (by decide) h0
 refine lpS (fun mz_ a w => ∃ k : Nat, ∃ lr : Fr, mz_ = m - k ∧ (k ≤ m) ∧ (∀ (j : Nat) (o : Rs), j < k → L[j]? = some o → o.out ≠ (x, y, z)) ∧ a = mk 19 (([(0, .slice p m c), (1, .func (Fn.func 33) #[] #[pV b]), (7, iV (m : Int)), (8, iV (k : Int))] : Fr) ++ lr) ∧ sat g w [Sl 40 8 p m c (fl eRs L), Cl b [iV x, iV y, uV z] 36, R]) (m - 0) ⟨0, _, rfl, (Nat.zero_le _), (fun j o h _ => absurd h (Nat.not_lt_zero _)), (lvF [.k 0 (.slice p m c), .k 1 (.func (Fn.func 33) #[] #[pV b]), .k 7 (iV (m : Int)), .o 8 (oJ .i64 0 (0 : Int))]), h0⟩ ?_
 rintro m12 a13 w14 ⟨k, lr11, rfl, hk, hall_, rfl, h15⟩
 refine ga <| go [.s 2 0] ?_
 by_cases c16 : (k : Int) < (m : Int)
 ·
  obtain ⟨b17, hp18⟩ := sl_ptr0 (j := 0) h15 rfl (by omega)
  refine go [.v 2 0 (oT ((k : Int) < (m : Int))), .s 4 3] <| lwP (.pointer (some ⟨b17, k * 8, none⟩)) (law_indexSlP (x := (Operand.tmp 12)) (i := (Operand.tmp 13)) (p := p) (b := b17) (off := 0) (z := (k : Int)) (len := m) (cap := c) (by kernel_rfl) Tryz.underlying69 8 (by kernel_rfl) k (by kernel_rfl) hp18 (by kernel_rfl) (by omega) (by omega) (k * 8) (by omega) _) ?_
  obtain ⟨x19, hx20⟩ : ∃ x, L[k]? = some x := ⟨_, List.getElem?_eq_getElem (by rw [hl10]; omega)⟩
  refine go [.r 4 4 b17 (k * 8) [iV x19.out.1, iV x19.out.2.1, uV x19.out.2.2, iV x19.st, iV x19.why, iV x19.tr, iV x19.nx, .string (St x19.tag)] ⟨gv_cell (j := 0) h15 rfl (gv_sl _ _ _) hp18 (fl_get eRs_ok (j := 0) (v := iV x19.out.1) hx20 rfl) (k * 8) (by omega), gv_cell (j := 0) h15 rfl (gv_sl _ _ _) hp18 (fl_get eRs_ok (j := 1) (v := iV x19.out.2.1) hx20 rfl) (k * 8 + 1) (by omega), gv_cell (j := 0) h15 rfl (gv_sl _ _ _) hp18 (fl_get eRs_ok (j := 2) (v := uV x19.out.2.2) hx20 rfl) (k * 8 + 2) (by omega), gv_cell (j := 0) h15 rfl (gv_sl _ _ _) hp18 (fl_get eRs_ok (j := 3) (v := iV x19.st) hx20 rfl) (k * 8 + 3) (by omega), gv_cell (j := 0) h15 rfl (gv_sl _ _ _) hp18 (fl_get eRs_ok (j := 4) (v := iV x19.why) hx20 rfl) (k * 8 + 4) (by omega), gv_cell (j := 0) h15 rfl (gv_sl _ _ _) hp18 (fl_get eRs_ok (j := 5) (v := iV x19.tr) hx20 rfl) (k * 8 + 5) (by omega), gv_cell (j := 0) h15 rfl (gv_sl _ _ _) hp18 (fl_get eRs_ok (j := 6) (v := iV x19.nx) hx20 rfl) (k * 8 + 6) (by omega), gv_cell (j := 0) h15 rfl (gv_sl _ _ _) hp18 (fl_get eRs_ok (j := 7) (v := .string (St x19.tag)) hx20 rfl) (k * 8 + 7) (by omega), trivial⟩] ?_
  by_cases c21 : x19.out.1 = x
  ·
   by_cases c22 : x19.out.2.1 = y
   ·
    by_cases c23 : x19.out.2.2 = z
    ·
     refine cl1 Tryz.call33 (op1_t b x19.out.1 x19.out.2.1 x19.out.2.2 x19.st x19.why x19.tr x19.nx x19.tag x y z (by omega)) (tk3 (sf2 (sf1 (sf2 h15)))) fun w25 h26 => go [] <| up <| go [] ?_
     exact en (iV (k : Int)) [] ⟨_, [Sl 40 8 p m c (fl eRs L), Cl b [iV x, iV y, uV z] 36], rfl, (.inl ⟨k, rfl, ⟨x19, List.mem_of_getElem? hx20, Prod.ext (show x19.out.1 = x from by omega) (Prod.ext (show x19.out.2.1 = y from by omega) (show x19.out.2.2 = z from by omega))⟩, rfl⟩), (tk3 (sf2 (sf1 (sf2 h26))))⟩
    refine cl1 Tryz.call33 (op1_f b x19.out.1 x19.out.2.1 x19.out.2.2 x19.st x19.why x19.tr x19.nx x19.tag x y z (by omega)) (tk3 (sf2 (sf1 (sf2 h15)))) fun w29 h30 => go [.v 6 0 (oIr ((k : Int) + 1))] ?_
    refine enL ?_
    have h31 := tk3 (sf2 (sf1 (sf2 h30)))
    change ∃ n', n' < _ ∧ _
    refine ⟨(m - (k + 1)), by omega, (k + 1), _, rfl, (by omega), (ridx_go hall_ hx20 (ne_trip (by omega))), (lvF [.k 0 (.slice p m c), .k 1 (.func (Fn.func 33) #[] #[pV b]), .k 7 (iV (m : Int)), .o 8 (oJ .i64 ((k : Int) + 1) ((((k + 1) : Nat) : Int)))]), h31⟩
   refine cl1 Tryz.call33 (op1_f b x19.out.1 x19.out.2.1 x19.out.2.2 x19.st x19.why x19.tr x19.nx x19.tag x y z (by omega)) (tk3 (sf2 (sf1 (sf2 h15)))) fun w33 h34 => go [.v 6 0 (oIr ((k : Int) + 1))] ?_
   refine enL ?_
   have h35 := tk3 (sf2 (sf1 (sf2 h34)))
   change ∃ n', n' < _ ∧ _
   refine ⟨(m - (k + 1)), by omega, (k + 1), _, rfl, (by omega), (ridx_go hall_ hx20 (ne_trip (by omega))), (lvF [.k 0 (.slice p m c), .k 1 (.func (Fn.func 33) #[] #[pV b]), .k 7 (iV (m : Int)), .o 8 (oJ .i64 ((k : Int) + 1) ((((k + 1) : Nat) : Int)))]), h35⟩
  refine cl1 Tryz.call33 (op1_f b x19.out.1 x19.out.2.1 x19.out.2.2 x19.st x19.why x19.tr x19.nx x19.tag x y z (by omega)) (tk3 (sf2 (sf1 (sf2 h15)))) fun w37 h38 => go [.v 6 0 (oIr ((k : Int) + 1))] ?_
  refine enL ?_
  have h39 := tk3 (sf2 (sf1 (sf2 h38)))
  change ∃ n', n' < _ ∧ _
  refine ⟨(m - (k + 1)), by omega, (k + 1), _, rfl, (by omega), (ridx_go hall_ hx20 (ne_trip (by omega))), (lvF [.k 0 (.slice p m c), .k 1 (.func (Fn.func 33) #[] #[pV b]), .k 7 (iV (m : Int)), .o 8 (oJ .i64 ((k : Int) + 1) ((((k + 1) : Nat) : Int)))]), h39⟩
 refine go [.v 2 0 (oF ((k : Int) < (m : Int)))] <| up <| go [] ?_
 exact en (iV (-1)) [] ⟨_, [Sl 40 8 p m c (fl eRs L), Cl b [iV x, iV y, uV z] 36], rfl, (.inr ⟨rfl, rall_idx (k := k) hall_ (by omega), rfl⟩), h15⟩

set_option maxHeartbeats 4000000 in
theorem r_has (p : Option Addr) (m c b : Nat) (L : List Rs) (x y z : Int) (hm : m ≤ 1000000) : HT Tryz.prog 32 [Value.slice p m c, Value.func (Fn.func 33) #[] #[Value.pointer (some ⟨b, 0, none⟩)]] [Sl 40 8 p m c (fl eRs L), Cl b [Value.int IntKind.i64 x, Value.int IntKind.i64 y, Value.int IntKind.u32 z] 36] (fun v K => (v = Value.bool true ∧ (∃ r ∈ L, r.out = (x, y, z)) ∧ K = [Sl 40 8 p m c (fl eRs L), Cl b [Value.int IntKind.i64 x, Value.int IntKind.i64 y, Value.int IntKind.u32 z] 36]) ∨ (v = Value.bool false ∧ (∀ r ∈ L, r.out ≠ (x, y, z)) ∧ K = [Sl 40 8 p m c (fl eRs L), Cl b [Value.int IntKind.i64 x, Value.int IntKind.i64 y, Value.int IntKind.u32 z] 36])) := by
 refine hiS Tryz.func32 Tryz.ntmps32 fun g w0 R h0 => go [] <| cP Tryz.call69 (r_index p m c b L x y z (by omega)) h0 ?_
 rintro v K w12 (⟨k10, rfl, hf11, rfl⟩ | ⟨rfl, hf11, rfl⟩) h13
 ·
  have h14 := ap2 h13
  refine go [.v 1 3 (oT ((k10 : Int) ≥ 0))] ?_
  exact en (.bool true) [] ⟨_, [Sl 40 8 p m c (fl eRs L), Cl b [iV x, iV y, uV z] 36], rfl, (.inl ⟨rfl, hf11, rfl⟩), h14⟩
 have h15 := ap2 h13
 refine go [] ?_
 exact en (.bool false) [] ⟨_, [Sl 40 8 p m c (fl eRs L), Cl b [iV x, iV y, uV z] 36], rfl, (.inr ⟨rfl, hf11, rfl⟩), h15⟩

theorem rhas_t (p : Option Addr) (m c b : Nat) (L : List Rs) (x y z : Int) (h : ∃ r ∈ L, r.out = (x, y, z)) (hm : m ≤ 1000000) : HT Tryz.prog 32 [Value.slice p m c, Value.func (Fn.func 33) #[] #[Value.pointer (some ⟨b, 0, none⟩)]] [Sl 40 8 p m c (fl eRs L), Cl b [Value.int IntKind.i64 x, Value.int IntKind.i64 y, Value.int IntKind.u32 z] 36] (fun v K => v = Value.bool true ∧ K = [Sl 40 8 p m c (fl eRs L), Cl b [Value.int IntKind.i64 x, Value.int IntKind.i64 y, Value.int IntKind.u32 z] 36]) :=
  (r_has p m c b L x y z hm).mono fun v K hP => by
    rcases hP with ⟨hv, h1, hK⟩ | ⟨hv, h1, hK⟩
    · exact ⟨hv, hK⟩
    · obtain ⟨e, he, h2⟩ := h; exact absurd h2 (h1 e he)

theorem rhas_f (p : Option Addr) (m c b : Nat) (L : List Rs) (x y z : Int) (h : ∀ r ∈ L, r.out ≠ (x, y, z)) (hm : m ≤ 1000000) : HT Tryz.prog 32 [Value.slice p m c, Value.func (Fn.func 33) #[] #[Value.pointer (some ⟨b, 0, none⟩)]] [Sl 40 8 p m c (fl eRs L), Cl b [Value.int IntKind.i64 x, Value.int IntKind.i64 y, Value.int IntKind.u32 z] 36] (fun v K => v = Value.bool false ∧ K = [Sl 40 8 p m c (fl eRs L), Cl b [Value.int IntKind.i64 x, Value.int IntKind.i64 y, Value.int IntKind.u32 z] 36]) :=
  (r_has p m c b L x y z hm).mono fun v K hP => by
    rcases hP with ⟨hv, h1, hK⟩ | ⟨hv, h1, hK⟩
    · obtain ⟨e, he, h1⟩ := h1; exact absurd h1 (h e he)
    · exact ⟨hv, hK⟩

end Go.Proofs.YtjjpmehiolejgaaGreat

/- Walks, printed by my generator ../tab/gen12.py. -/
namespace Go.Proofs.YtjjpmehiolejgaaGreat
set_option maxHeartbeats 4000000 in
theorem tnum_n (x y z : Int) : HT Tryz.prog 25 [Value.pointer none, Value.agg #[Value.int IntKind.i64 x, Value.int IntKind.i64 y, Value.int IntKind.u32 z]] [] (fun v K => v = Value.tuple #[Value.int IntKind.i64 0, Value.int IntKind.i64 1] ∧ K = []) := by
 refine hiS Tryz.func25 Tryz.ntmps25 fun g w0 R h0 => go [] <| nP 25 [iV x, iV y, uV z] h0 (fun r10 w11 h12 => ?_)
 refine go [rd 1 1 0 0 3 h12] <| cl0 Tryz.call43 (tfind_n x y z) h12 fun w13 h14 => go [] <| nP 89 [iV 0, iV 0, uV 0, iV 0, iV 0, uV 0] h14 (fun r15 w16 h17 => ?_)
 refine sP [(0, iV 0), (1, iV 0), (2, uV 0), (3, iV 0), (4, iV 0), (5, uV 0)] [iV 0, iV 0, uV 0, iV 0, iV 0, uV 0] h17 fun w18 h19 => go [rd 2 1 0 3 1 h19] ?_
 exact en (.tuple #[iV 0, iV 1]) [] ⟨_, _, rfl, ⟨rfl, rfl⟩, (tk1 (sf2 h19))⟩

set_option maxHeartbeats 4000000 in
theorem tnum_bad (b n : Nat) (A : List Sl2) (E : Tm) (RL : List Rs) (x y z : Int) (hz0 : 0 ≤ z) (hz1 : z ≤ 4294967295) (ho : ¬ (1 ≤ x ∧ x ≤ 3 ∧ 0 ≤ y ∧ y ≤ 255 ∧ 1 ≤ z)) : HT Tryz.prog 25 [Value.pointer (some ⟨b, 0, none⟩), Value.agg #[Value.int IntKind.i64 x, Value.int IntKind.i64 y, Value.int IntKind.u32 z]] [Tab b n A E RL] (fun v K => v = Value.tuple #[Value.int IntKind.i64 0, Value.int IntKind.i64 2] ∧ K = [Tab b n A E RL]) := by
 refine hiS Tryz.func25 Tryz.ntmps25 fun g w0 R h0 => go [] <| nP 25 [iV x, iV y, uV z] h0 (fun r10 w11 h12 => ?_)
 have h13 := tk3 (sf2 (sf1 (sf2 h12)))
 refine go [rd 1 1 0 0 3 h12] <| cl1 Tryz.call43 (tfind_bad b n A E RL x y z (by omega) (by omega) (by omega)) h13 fun w14 h15 => go [] <| nP 89 [iV 0, iV 0, uV 0, iV 0, iV 0, uV 0] h15 (fun r16 w17 h18 => ?_)
 refine sP [(0, iV 0), (1, iV 0), (2, uV 0), (3, iV 0), (4, iV 0), (5, uV 0)] [iV 0, iV 0, uV 0, iV 0, iV 0, uV 0] h18 fun w19 h20 => go [rd 2 1 0 3 1 h20] ?_
 exact en (.tuple #[iV 0, iV 2]) [] ⟨_, _, rfl, ⟨rfl, rfl⟩, (tk2 (sf1 (sf3 (tk4 (sf3 (sf2 (sf3 (sf3 h20))))))))⟩

set_option maxHeartbeats 4000000 in
theorem tnum_none (b n : Nat) (A : List Sl2) (E : Tm) (RL : List Rs) (x y z : Int) (hz0 : 0 ≤ z) (hz1 : z ≤ 4294967295) (ho : 1 ≤ x ∧ x ≤ 3 ∧ 0 ≤ y ∧ y ≤ 255 ∧ 1 ≤ z) (hg_ : gget E y = none) : HT Tryz.prog 25 [Value.pointer (some ⟨b, 0, none⟩), Value.agg #[Value.int IntKind.i64 x, Value.int IntKind.i64 y, Value.int IntKind.u32 z]] [Tab b n A E RL] (fun v K => v = Value.tuple #[Value.int IntKind.i64 0, Value.int IntKind.i64 7] ∧ K = [Tab b n A E RL]) := by
 refine hiS Tryz.func25 Tryz.ntmps25 fun g w0 R h0 => go [] <| nP 25 [iV x, iV y, uV z] h0 (fun r10 w11 h12 => ?_)
 have h13 := tk3 (sf2 (sf1 (sf2 h12)))
 refine go [rd 1 1 0 0 3 h12] <| cl1 Tryz.call43 (tfind_none b n A E RL x y z (by omega) (by omega) (by omega) hg_) h13 fun w14 h15 => go [] <| nP 89 [iV 0, iV 0, uV 0, iV 0, iV 0, uV 0] h15 (fun r16 w17 h18 => ?_)
 refine sP [(0, iV 0), (1, iV 0), (2, uV 0), (3, iV 0), (4, iV 0), (5, uV 0)] [iV 0, iV 0, uV 0, iV 0, iV 0, uV 0] h18 fun w19 h20 => go [rd 2 1 0 3 1 h20] ?_
 exact en (.tuple #[iV 0, iV 7]) [] ⟨_, _, rfl, ⟨rfl, rfl⟩, (tk2 (sf1 (sf3 (tk4 (sf3 (sf2 (sf3 (sf3 h20))))))))⟩

set_option maxHeartbeats 4000000 in
theorem tnum_ok (b n : Nat) (A : List Sl2) (E : Tm) (RL : List Rs) (x y z : Int) (e : Ety) (hz0 : 0 ≤ z) (hz1 : z ≤ 4294967295) (ho : 1 ≤ x ∧ x ≤ 3 ∧ 0 ≤ y ∧ y ≤ 255 ∧ 1 ≤ z) (hg_ : gget E y = some e) (hd_ : e.d.1 = x ∧ e.d.2.1 = y ∧ e.d.2.2 = z) : HT Tryz.prog 25 [Value.pointer (some ⟨b, 0, none⟩), Value.agg #[Value.int IntKind.i64 x, Value.int IntKind.i64 y, Value.int IntKind.u32 z]] [Tab b n A E RL] (fun v K => v = Value.tuple #[Value.int IntKind.i64 e.num, Value.int IntKind.i64 0] ∧ K = [Tab b n A E RL]) := by
 refine hiS Tryz.func25 Tryz.ntmps25 fun g w0 R h0 => go [] <| nP 25 [iV x, iV y, uV z] h0 (fun r10 w11 h12 => ?_)
 have h13 := tk3 (sf2 (sf1 (sf2 h12)))
 refine go [rd 1 1 0 0 3 h12] <| cl1 Tryz.call43 (tfind_ok b n A E RL x y z e (by omega) (by omega) (by omega) hg_ (by omega)) h13 fun w14 h15 => go [] <| nP 89 [iV 0, iV 0, uV 0, iV 0, iV 0, uV 0] h15 (fun r16 w17 h18 => ?_)
 refine sP [(0, iV e.d.1), (1, iV e.d.2.1), (2, uV e.d.2.2), (3, iV e.num), (4, iV e.h.1), (5, uV e.h.2)] [iV e.d.1, iV e.d.2.1, uV e.d.2.2, iV e.num, iV e.h.1, uV e.h.2] h18 fun w19 h20 => go [rd 2 1 0 3 1 h20] ?_
 exact en (.tuple #[iV e.num, iV 0]) [] ⟨_, _, rfl, ⟨rfl, rfl⟩, (tk2 (sf1 (sf3 (tk4 (sf3 (sf2 (sf3 (sf3 h20))))))))⟩

set_option maxHeartbeats 4000000 in
theorem tnum_diff (b n : Nat) (A : List Sl2) (E : Tm) (RL : List Rs) (x y z : Int) (e : Ety) (hz0 : 0 ≤ z) (hz1 : z ≤ 4294967295) (ho : 1 ≤ x ∧ x ≤ 3 ∧ 0 ≤ y ∧ y ≤ 255 ∧ 1 ≤ z) (hg_ : gget E y = some e) (hd_ : ¬ (e.d.1 = x ∧ e.d.2.1 = y ∧ e.d.2.2 = z)) : HT Tryz.prog 25 [Value.pointer (some ⟨b, 0, none⟩), Value.agg #[Value.int IntKind.i64 x, Value.int IntKind.i64 y, Value.int IntKind.u32 z]] [Tab b n A E RL] (fun v K => v = Value.tuple #[Value.int IntKind.i64 0, Value.int IntKind.i64 7] ∧ K = [Tab b n A E RL]) := by
 refine hiS Tryz.func25 Tryz.ntmps25 fun g w0 R h0 => go [] <| nP 25 [iV x, iV y, uV z] h0 (fun r10 w11 h12 => ?_)
 have h13 := tk3 (sf2 (sf1 (sf2 h12)))
 refine go [rd 1 1 0 0 3 h12] <| cl1 Tryz.call43 (tfind_diff b n A E RL x y z e (by omega) (by omega) (by omega) hg_ (by omega)) h13 fun w14 h15 => go [] <| nP 89 [iV 0, iV 0, uV 0, iV 0, iV 0, uV 0] h15 (fun r16 w17 h18 => ?_)
 refine sP [(0, iV 0), (1, iV 0), (2, uV 0), (3, iV 0), (4, iV 0), (5, uV 0)] [iV 0, iV 0, uV 0, iV 0, iV 0, uV 0] h18 fun w19 h20 => go [rd 2 1 0 3 1 h20] ?_
 exact en (.tuple #[iV 0, iV 7]) [] ⟨_, _, rfl, ⟨rfl, rfl⟩, (tk2 (sf1 (sf3 (tk4 (sf3 (sf2 (sf3 (sf3 h20))))))))⟩

set_option maxHeartbeats 4000000 in
theorem thnd_n (x y z : Int) : HT Tryz.prog 57 [Value.pointer none, Value.agg #[Value.int IntKind.i64 x, Value.int IntKind.i64 y, Value.int IntKind.u32 z]] [] (fun v K => v = Value.tuple #[Value.agg #[Value.int IntKind.i64 0, Value.int IntKind.u32 0], Value.int IntKind.i64 1] ∧ K = []) := by
 refine hiS Tryz.func57 Tryz.ntmps57 fun g w0 R h0 => go [] <| nP 25 [iV x, iV y, uV z] h0 (fun r10 w11 h12 => ?_)
 refine nP 38 [iV 0, uV 0] h12 (fun r13 w14 h15 => ?_)
 refine go [rd 1 1 1 0 3 h15] <| cl0 Tryz.call43 (tfind_n x y z) h15 fun w16 h17 => go [] <| nP 89 [iV 0, iV 0, uV 0, iV 0, iV 0, uV 0] h17 (fun r18 w19 h20 => ?_)
 refine sP [(0, iV 0), (1, iV 0), (2, uV 0), (3, iV 0), (4, iV 0), (5, uV 0)] [iV 0, iV 0, uV 0, iV 0, iV 0, uV 0] h20 fun w21 h22 => ?_
 have h23 := tk4 (sf3 (sf2 (sf3 (sf3 h22))))
 refine go [rd 2 1 0 4 2 h22] <| sP [(0, iV 0), (1, uV 0)] [iV 0, uV 0] h23 fun w24 h25 => go [] ?_
 exact en (.tuple #[.agg #[iV 0, uV 0], iV 1]) [rd 0 0 0 0 2 h25] ⟨_, _, rfl, ⟨rfl, rfl⟩, (tk1 (sf3 h25))⟩

set_option maxHeartbeats 4000000 in
theorem thnd_bad (b n : Nat) (A : List Sl2) (E : Tm) (RL : List Rs) (x y z : Int) (hz0 : 0 ≤ z) (hz1 : z ≤ 4294967295) (ho : ¬ (1 ≤ x ∧ x ≤ 3 ∧ 0 ≤ y ∧ y ≤ 255 ∧ 1 ≤ z)) : HT Tryz.prog 57 [Value.pointer (some ⟨b, 0, none⟩), Value.agg #[Value.int IntKind.i64 x, Value.int IntKind.i64 y, Value.int IntKind.u32 z]] [Tab b n A E RL] (fun v K => v = Value.tuple #[Value.agg #[Value.int IntKind.i64 0, Value.int IntKind.u32 0], Value.int IntKind.i64 2] ∧ K = [Tab b n A E RL]) := by
 refine hiS Tryz.func57 Tryz.ntmps57 fun g w0 R h0 => go [] <| nP 25 [iV x, iV y, uV z] h0 (fun r10 w11 h12 => ?_)
 refine nP 38 [iV 0, uV 0] h12 (fun r13 w14 h15 => ?_)
 have h16 := tk4 (sf3 (sf2 (sf2 (sf3 h15))))
 refine go [rd 1 1 1 0 3 h15] <| cl1 Tryz.call43 (tfind_bad b n A E RL x y z (by omega) (by omega) (by omega)) h16 fun w17 h18 => go [] <| nP 89 [iV 0, iV 0, uV 0, iV 0, iV 0, uV 0] h18 (fun r19 w20 h21 => ?_)
 refine sP [(0, iV 0), (1, iV 0), (2, uV 0), (3, iV 0), (4, iV 0), (5, uV 0)] [iV 0, iV 0, uV 0, iV 0, iV 0, uV 0] h21 fun w22 h23 => ?_
 have h24 := tk5 (sf4 (sf3 (sf3 (sf4 (sf4 h23)))))
 refine go [rd 2 1 0 4 2 h23] <| sP [(0, iV 0), (1, uV 0)] [iV 0, uV 0] h24 fun w25 h26 => go [] ?_
 exact en (.tuple #[.agg #[iV 0, uV 0], iV 2]) [rd 0 0 0 0 2 h26] ⟨_, _, rfl, ⟨rfl, rfl⟩, (tk2 (sf1 (sf4 (tk5 (sf4 (sf3 (sf3 (sf4 (sf4 h26)))))))))⟩

set_option maxHeartbeats 4000000 in
theorem thnd_none (b n : Nat) (A : List Sl2) (E : Tm) (RL : List Rs) (x y z : Int) (hz0 : 0 ≤ z) (hz1 : z ≤ 4294967295) (ho : 1 ≤ x ∧ x ≤ 3 ∧ 0 ≤ y ∧ y ≤ 255 ∧ 1 ≤ z) (hg_ : gget E y = none) : HT Tryz.prog 57 [Value.pointer (some ⟨b, 0, none⟩), Value.agg #[Value.int IntKind.i64 x, Value.int IntKind.i64 y, Value.int IntKind.u32 z]] [Tab b n A E RL] (fun v K => v = Value.tuple #[Value.agg #[Value.int IntKind.i64 0, Value.int IntKind.u32 0], Value.int IntKind.i64 7] ∧ K = [Tab b n A E RL]) := by
 refine hiS Tryz.func57 Tryz.ntmps57 fun g w0 R h0 => go [] <| nP 25 [iV x, iV y, uV z] h0 (fun r10 w11 h12 => ?_)
 refine nP 38 [iV 0, uV 0] h12 (fun r13 w14 h15 => ?_)
 have h16 := tk4 (sf3 (sf2 (sf2 (sf3 h15))))
 refine go [rd 1 1 1 0 3 h15] <| cl1 Tryz.call43 (tfind_none b n A E RL x y z (by omega) (by omega) (by omega) hg_) h16 fun w17 h18 => go [] <| nP 89 [iV 0, iV 0, uV 0, iV 0, iV 0, uV 0] h18 (fun r19 w20 h21 => ?_)
 refine sP [(0, iV 0), (1, iV 0), (2, uV 0), (3, iV 0), (4, iV 0), (5, uV 0)] [iV 0, iV 0, uV 0, iV 0, iV 0, uV 0] h21 fun w22 h23 => ?_
 have h24 := tk5 (sf4 (sf3 (sf3 (sf4 (sf4 h23)))))
 refine go [rd 2 1 0 4 2 h23] <| sP [(0, iV 0), (1, uV 0)] [iV 0, uV 0] h24 fun w25 h26 => go [] ?_
 exact en (.tuple #[.agg #[iV 0, uV 0], iV 7]) [rd 0 0 0 0 2 h26] ⟨_, _, rfl, ⟨rfl, rfl⟩, (tk2 (sf1 (sf4 (tk5 (sf4 (sf3 (sf3 (sf4 (sf4 h26)))))))))⟩

set_option maxHeartbeats 4000000 in
theorem thnd_ok (b n : Nat) (A : List Sl2) (E : Tm) (RL : List Rs) (x y z : Int) (e : Ety) (hz0 : 0 ≤ z) (hz1 : z ≤ 4294967295) (ho : 1 ≤ x ∧ x ≤ 3 ∧ 0 ≤ y ∧ y ≤ 255 ∧ 1 ≤ z) (hg_ : gget E y = some e) (hd_ : e.d.1 = x ∧ e.d.2.1 = y ∧ e.d.2.2 = z) : HT Tryz.prog 57 [Value.pointer (some ⟨b, 0, none⟩), Value.agg #[Value.int IntKind.i64 x, Value.int IntKind.i64 y, Value.int IntKind.u32 z]] [Tab b n A E RL] (fun v K => v = Value.tuple #[Value.agg #[Value.int IntKind.i64 e.h.1, Value.int IntKind.u32 e.h.2], Value.int IntKind.i64 0] ∧ K = [Tab b n A E RL]) := by
 refine hiS Tryz.func57 Tryz.ntmps57 fun g w0 R h0 => go [] <| nP 25 [iV x, iV y, uV z] h0 (fun r10 w11 h12 => ?_)
 refine nP 38 [iV 0, uV 0] h12 (fun r13 w14 h15 => ?_)
 have h16 := tk4 (sf3 (sf2 (sf2 (sf3 h15))))
 refine go [rd 1 1 1 0 3 h15] <| cl1 Tryz.call43 (tfind_ok b n A E RL x y z e (by omega) (by omega) (by omega) hg_ (by omega)) h16 fun w17 h18 => go [] <| nP 89 [iV 0, iV 0, uV 0, iV 0, iV 0, uV 0] h18 (fun r19 w20 h21 => ?_)
 refine sP [(0, iV e.d.1), (1, iV e.d.2.1), (2, uV e.d.2.2), (3, iV e.num), (4, iV e.h.1), (5, uV e.h.2)] [iV e.d.1, iV e.d.2.1, uV e.d.2.2, iV e.num, iV e.h.1, uV e.h.2] h21 fun w22 h23 => ?_
 have h24 := tk5 (sf4 (sf3 (sf3 (sf4 (sf4 h23)))))
 refine go [rd 2 1 0 4 2 h23] <| sP [(0, iV e.h.1), (1, uV e.h.2)] [iV e.h.1, uV e.h.2] h24 fun w25 h26 => go [] ?_
 exact en (.tuple #[.agg #[iV e.h.1, uV e.h.2], iV 0]) [rd 0 0 0 0 2 h26] ⟨_, _, rfl, ⟨rfl, rfl⟩, (tk2 (sf1 (sf4 (tk5 (sf4 (sf3 (sf3 (sf4 (sf4 h26)))))))))⟩

set_option maxHeartbeats 4000000 in
theorem thnd_diff (b n : Nat) (A : List Sl2) (E : Tm) (RL : List Rs) (x y z : Int) (e : Ety) (hz0 : 0 ≤ z) (hz1 : z ≤ 4294967295) (ho : 1 ≤ x ∧ x ≤ 3 ∧ 0 ≤ y ∧ y ≤ 255 ∧ 1 ≤ z) (hg_ : gget E y = some e) (hd_ : ¬ (e.d.1 = x ∧ e.d.2.1 = y ∧ e.d.2.2 = z)) : HT Tryz.prog 57 [Value.pointer (some ⟨b, 0, none⟩), Value.agg #[Value.int IntKind.i64 x, Value.int IntKind.i64 y, Value.int IntKind.u32 z]] [Tab b n A E RL] (fun v K => v = Value.tuple #[Value.agg #[Value.int IntKind.i64 0, Value.int IntKind.u32 0], Value.int IntKind.i64 7] ∧ K = [Tab b n A E RL]) := by
 refine hiS Tryz.func57 Tryz.ntmps57 fun g w0 R h0 => go [] <| nP 25 [iV x, iV y, uV z] h0 (fun r10 w11 h12 => ?_)
 refine nP 38 [iV 0, uV 0] h12 (fun r13 w14 h15 => ?_)
 have h16 := tk4 (sf3 (sf2 (sf2 (sf3 h15))))
 refine go [rd 1 1 1 0 3 h15] <| cl1 Tryz.call43 (tfind_diff b n A E RL x y z e (by omega) (by omega) (by omega) hg_ (by omega)) h16 fun w17 h18 => go [] <| nP 89 [iV 0, iV 0, uV 0, iV 0, iV 0, uV 0] h18 (fun r19 w20 h21 => ?_)
 refine sP [(0, iV 0), (1, iV 0), (2, uV 0), (3, iV 0), (4, iV 0), (5, uV 0)] [iV 0, iV 0, uV 0, iV 0, iV 0, uV 0] h21 fun w22 h23 => ?_
 have h24 := tk5 (sf4 (sf3 (sf3 (sf4 (sf4 h23)))))
 refine go [rd 2 1 0 4 2 h23] <| sP [(0, iV 0), (1, uV 0)] [iV 0, uV 0] h24 fun w25 h26 => go [] ?_
 exact en (.tuple #[.agg #[iV 0, uV 0], iV 7]) [rd 0 0 0 0 2 h26] ⟨_, _, rfl, ⟨rfl, rfl⟩, (tk2 (sf1 (sf4 (tk5 (sf4 (sf3 (sf3 (sf4 (sf4 h26)))))))))⟩

end Go.Proofs.YtjjpmehiolejgaaGreat
