/-
  A table of resources as a whole: what each of its functions answers and leaves, as plain functions. No program in sight.
-/
import Derived.Test.YtjjpmehiolejgaaTabM
import Derived.Test.YtjjpmehiolejgaaFdsB
namespace Go.Proofs.Ytjjpmehiolejgaa
structure Ts where
  A : List Sl2
  E : Tm
  R : List Rs
def goodD (d : Ky) : Prop := 1 ≤ d.1 ∧ d.1 ≤ 3 ∧ 0 ≤ d.2.1 ∧ d.2.1 ≤ 255 ∧ 1 ≤ d.2.2
instance (d : Ky) : Decidable (goodD d) := by unfold goodD; infer_instance
def objH (h : Int × Int) : Prop := 0 ≤ h.1 ∧ h.1 ≤ 255 ∧ 1 ≤ h.2
instance (h : Int × Int) : Decidable (objH h) := by unfold objH; infer_instance
def rs0 : Rs := ⟨(0, 0, 0), 0, 0, 0, 0, []⟩
def resR (r : Rs) : Int := resE r.out.1 r.out.2.1 r.out.2.2 r.st r.why r.tr r.nx r.tag
/-- The entry of a descriptor. -/
def fndO (S : Ts) (d : Ky) : Option Ety := match gget S.E d.2.1 with
  | some e => if e.d = d then some e else none
  | none => none
def fndE (S : Ts) (d : Ky) : Int := if goodD d then (if (fndO S d).isSome then 0 else 7) else 2
def fndX (S : Ts) (d : Ky) : Ety := if fndE S d = 0 then (fndO S d).getD noE else noE
def freeS (A : List Sl2) : Option (Nat × Int) := (inS 0 A 0)[0]?
def hasH (E : Tm) (h : Int × Int) : Prop := ∃ e ∈ allE E, e.h = h
instance (E : Tm) (h : Int × Int) : Decidable (hasH E h) := by unfold hasH; infer_instance
def hasO (R : List Rs) (o : Ky) : Prop := ∃ r ∈ R, r.out = o
instance (R : List Rs) (o : Ky) : Decidable (hasO R o) := by unfold hasO; infer_instance
def addS (S : Ts) (k num : Int) (h : Int × Int) : Ts := match freeS S.A with
  | some (j, g) => ⟨S.A.set j (1, g), gset S.E (j : Int) ⟨(k, (j : Int), g), num, h⟩, S.R⟩
  | none => S
def addD (A : List Sl2) (k : Int) : Ky := match freeS A with
  | some (j, g) => (k, (j : Int), g)
  | none => (0, 0, 0)
/-- Open: the error, what is left, the descriptor. -/
def newE (o : Ky) (L : List UInt8) : Int := resE o.1 o.2.1 o.2.2 1 0 0 0 L
def opnE (S : Ts) (o : Ky) (L : List UInt8) (h : Int × Int) : Int := if newE o L ≠ 0 then newE o L else if ¬ objH h then 2 else if hasO S.R o ∨ hasH S.E h then 6 else if 2000 ≤ S.R.length ∨ freeS S.A = none then 4 else 0
def opnS (S : Ts) (o : Ky) (L : List UInt8) (h : Int × Int) : Ts := if opnE S o L h = 0 then addS ⟨S.A, S.E, S.R ++ [⟨o, 1, 0, 0, 0, L⟩]⟩ o.1 ((S.R.length : Int) + 1) h else S
def opnD (S : Ts) (o : Ky) (L : List UInt8) (h : Int × Int) : Ky := if opnE S o L h = 0 then addD S.A o.1 else (0, 0, 0)
def dupE (S : Ts) (d : Ky) (h : Int × Int) : Int := if ¬ objH h then 2 else if fndE S d ≠ 0 then fndE S d else if hasH S.E h then 6 else if freeS S.A = none then 4 else 0
def dupS (S : Ts) (d : Ky) (h : Int × Int) : Ts := if dupE S d h = 0 then addS S d.1 (fndX S d).num h else S
def dupD (S : Ts) (d : Ky) (h : Int × Int) : Ky := if dupE S d h = 0 then addD S.A d.1 else (0, 0, 0)
def dropS (S : Ts) (d : Ky) : Ts := ⟨giveA S.A d.2.1.toNat d.2.2, gdel S.E d.2.1, S.R⟩
def clsS (S : Ts) (d : Ky) : Ts := if fndE S d = 0 then dropS S d else S
def clsL (S : Ts) (d : Ky) : Bool := decide (fndE S d = 0 ∧ (descs (dropS S d).E (fndX S d).num).length = 0)
def atX (S : Ts) (v : Int) : Ety := (gget S.E v).getD noE
def nE (S : Ts) (v : Int) : Int := if 1 ≤ v ∧ v ≤ (S.R.length : Int) then 0 else 3
def getR (S : Ts) (v : Int) : Rs := if 1 ≤ v then (S.R[(v - 1).toNat]?).getD rs0 else rs0
def expS (S : Ts) (v : Int) : Ts := (descs S.E v).foldl dropS S
def setE (S : Ts) (v : Int) (r : Rs) : Int := if nE S v ≠ 0 then 3 else if resR r ≠ 0 then resR r else if r.out ≠ (getR S v).out ∨ r.tag ≠ (getR S v).tag then 2 else if r.st ≠ 1 ∧ 0 < (descs S.E v).length then 8 else 0
def setS (S : Ts) (v : Int) (r : Rs) : Ts := if setE S v r = 0 then ⟨S.A, S.E, S.R.set (v - 1).toNat r⟩ else S
/-- What is true of every table. -/
structure Wf (n : Nat) (S : Ts) : Prop where
  len : S.A.length = n
  bd : 1 ≤ n ∧ n ≤ 256
  ok : SlOk S.A
  rl : S.R.length ≤ 2000
  nd : KN S.E
  ent : ∀ (k : Int) (e : Ety), gget S.E k = some e → (∃ q : Nat, k = (q : Int) ∧ S.A[q]? = some (1, e.d.2.2)) ∧ e.d.2.1 = k ∧ (∃ (q : Nat) (r : Rs), S.R[q]? = some r ∧ e.num = (q : Int) + 1 ∧ r.out.1 = e.d.1 ∧ r.st = 1) ∧ objH e.h
  tak : ∀ (q : Nat) (g : Int), S.A[q]? = some (1, g) → ∃ e, gget S.E (q : Int) = some e
  res : ∀ r ∈ S.R, resR r = 0
  out : (S.R.map (·.out)).Nodup
  og : ∀ r ∈ S.R, r.out.2.2 ≤ 4294967295
  hnd : ∀ (k1 k2 : Int) (e1 e2 : Ety), gget S.E k1 = some e1 → gget S.E k2 = some e2 → e1.h = e2.h → k1 = k2
theorem fndO_some {S : Ts} {d : Ky} {e : Ety} : fndO S d = some e ↔ gget S.E d.2.1 = some e ∧ e.d = d := by
  unfold fndO
  cases h : gget S.E d.2.1 with
  | none => simp
  | some x =>
    simp only
    split
    · rename_i hx
      constructor
      · intro he
        obtain rfl := Option.some.inj he
        exact ⟨rfl, hx⟩
      · rintro ⟨he, _⟩
        exact he
    · rename_i hx
      constructor
      · intro he; cases he
      · rintro ⟨he, h2⟩
        obtain rfl := Option.some.inj he
        exact absurd h2 hx
theorem fndE_ok {S : Ts} {d : Ky} : fndE S d = 0 ↔ goodD d ∧ ∃ e, gget S.E d.2.1 = some e ∧ e.d = d := by
  unfold fndE
  split
  · rename_i hg
    cases h : fndO S d with
    | none =>
      simp only [Option.isSome_none, Bool.false_eq_true, if_false]
      constructor
      · intro h2; omega
      · rintro ⟨_, e, he⟩
        have := fndO_some.2 he
        rw [h] at this
        cases this
    | some e => simp only [Option.isSome_some, if_true]; exact ⟨fun _ => ⟨hg, e, fndO_some.1 h⟩, fun _ => trivial⟩
  · rename_i hg
    constructor
    · intro h2; omega
    · rintro ⟨h2, _⟩; exact absurd h2 hg
theorem fndX_ok {S : Ts} {d : Ky} {e : Ety} (hg : goodD d) (h1 : gget S.E d.2.1 = some e) (h2 : e.d = d) : fndE S d = 0 ∧ fndX S d = e := by
  have h0 : fndE S d = 0 := fndE_ok.2 ⟨hg, e, h1, h2⟩
  refine ⟨h0, ?_⟩
  unfold fndX
  rw [if_pos h0, fndO_some.2 ⟨h1, h2⟩]
  rfl
theorem fndX_bad {S : Ts} {d : Ky} (hg : ¬ goodD d) : fndE S d = 2 ∧ fndX S d = noE := by
  have h0 : fndE S d = 2 := if_neg hg
  refine ⟨h0, ?_⟩
  unfold fndX
  rw [if_neg (by omega)]
theorem fndX_no {S : Ts} {d : Ky} (hg : goodD d) (h : ∀ e, gget S.E d.2.1 = some e → e.d ≠ d) : fndE S d = 7 ∧ fndX S d = noE := by
  have h0 : fndE S d = 7 := by
    unfold fndE
    rw [if_pos hg]
    cases h2 : fndO S d with
    | none => rfl
    | some e => exact absurd (fndO_some.1 h2).2 (h e (fndO_some.1 h2).1)
  refine ⟨h0, ?_⟩
  unfold fndX
  rw [if_neg (by omega)]
/-- The three cases of a descriptor. -/
theorem fnd_cases (S : Ts) (d : Ky) : (¬ goodD d ∧ fndE S d = 2 ∧ fndX S d = noE) ∨ (goodD d ∧ (∀ e, gget S.E d.2.1 = some e → e.d ≠ d) ∧ fndE S d = 7 ∧ fndX S d = noE) ∨ (goodD d ∧ ∃ e, gget S.E d.2.1 = some e ∧ e.d = d ∧ fndE S d = 0 ∧ fndX S d = e) := by
  by_cases hg : goodD d
  · by_cases h : ∃ e, gget S.E d.2.1 = some e ∧ e.d = d
    · obtain ⟨e, h1, h2⟩ := h
      exact .inr (.inr ⟨hg, e, h1, h2, fndX_ok hg h1 h2⟩)
    · have h' : ∀ e, gget S.E d.2.1 = some e → e.d ≠ d := fun e h1 h2 => h ⟨e, h1, h2⟩
      exact .inr (.inl ⟨hg, h', fndX_no hg h'⟩)
  · exact .inl ⟨hg, fndX_bad hg⟩
theorem mem_allE {E : Tm} {e : Ety} : e ∈ allE E ↔ ∃ k : Nat, k < 256 ∧ gget E (k : Int) = some e := by
  unfold allE someE
  rw [List.mem_filterMap]
  constructor
  · rintro ⟨k, hk, he⟩; exact ⟨k, List.mem_range.1 hk, he⟩
  · rintro ⟨k, hk, he⟩; exact ⟨k, List.mem_range.2 hk, he⟩
theorem freeS_some {A : List Sl2} {j : Nat} {g : Int} (h : freeS A = some (j, g)) : A[j]? = some (0, g) := by
  have := (inS_mem h).2
  simpa using this
theorem freeS_none {A : List Sl2} : freeS A = none ↔ (inS 0 A 0).length = 0 := by
  unfold freeS
  rw [List.getElem?_eq_none_iff]
  omega
theorem giveA_get {A : List Sl2} {q : Nat} {z : Int} {j : Nat} (h : j ≠ q) : (giveA A q z)[j]? = A[j]? := by
  unfold giveA
  split
  · rw [List.getElem?_set_ne (Ne.symm h)]
  · rw [List.getElem?_set_ne (Ne.symm h)]
theorem giveA_self {A : List Sl2} {q : Nat} {z : Int} (h : q < A.length) : (giveA A q z)[q]? = some (if z < 4294967295 then (0, z + 1) else (2, z)) := by
  unfold giveA
  split
  · rw [List.getElem?_set_self h]
  · rw [List.getElem?_set_self h]
theorem giveA_len (A : List Sl2) (q : Nat) (z : Int) : (giveA A q z).length = A.length := by unfold giveA; split <;> rw [List.length_set]
theorem wf_slot {n : Nat} {S : Ts} (W : Wf n S) {k : Int} {e : Ety} (h : gget S.E k = some e) : ∃ q : Nat, k = (q : Int) ∧ q < n ∧ S.A[q]? = some (1, e.d.2.2) := by
  obtain ⟨⟨q, h1, h2⟩, _⟩ := W.ent k e h
  exact ⟨q, h1, by have := (List.getElem?_eq_some_iff.1 h2).1; rw [W.len] at this; exact this, h2⟩
theorem wf_all {n : Nat} {S : Ts} (W : Wf n S) {k : Int} {e : Ety} (h : gget S.E k = some e) : e ∈ allE S.E := by
  obtain ⟨q, h1, h2, _⟩ := wf_slot W h
  exact mem_allE.2 ⟨q, by have := W.bd.2; omega, by rw [← h1]; exact h⟩
theorem wf_good {n : Nat} {S : Ts} (W : Wf n S) {k : Int} {e : Ety} (h : gget S.E k = some e) : goodD e.d := by
  obtain ⟨⟨q, h1, h2⟩, h3, ⟨p, r, hp, _, hk, _⟩, _⟩ := W.ent k e h
  obtain ⟨q', h1', h2', _⟩ := wf_slot W h
  have hr := W.res r (List.mem_of_getElem? hp)
  have hs := W.ok _ (List.mem_of_getElem? h2)
  have hb := W.bd.2
  unfold resR resE at hr
  split at hr
  · rename_i hpos
    have hx := hpos.1
    unfold goodD
    simp only at hs
    omega
  · omega
theorem wf_add {n : Nat} {S : Ts} (W : Wf n S) {k num : Int} {h : Int × Int} {q : Nat} {r : Rs} (hr : S.R[q]? = some r) (hn : num = (q : Int) + 1) (hk : r.out.1 = k) (hst : r.st = 1) (ho : objH h) (hh : ¬ hasH S.E h) : Wf n (addS S k num h) := by
  unfold addS
  cases hf : freeS S.A with
  | none => exact W
  | some p =>
    obtain ⟨j, g⟩ := p
    have hj := freeS_some hf
    have hjl := (List.getElem?_eq_some_iff.1 hj).1
    have hno : gget S.E (j : Int) = none := by
      cases hg : gget S.E (j : Int) with
      | none => rfl
      | some e =>
        obtain ⟨q2, h1, _, h2⟩ := wf_slot W hg
        obtain rfl : j = q2 := by omega
        rw [hj] at h2
        simp at h2
    refine ⟨by simp only [List.length_set]; exact W.len, W.bd, slOk_set W.ok (by have := W.ok _ (List.mem_of_getElem? hj); simp only at this ⊢; omega), W.rl, kn_set W.nd, ?_, ?_, W.res, W.out, W.og, ?_⟩
    · intro k2 e2 he
      simp only at he
      rw [gget_set] at he
      split at he
      · rename_i hk2
        obtain rfl := Option.some.inj he
        refine ⟨⟨j, hk2, List.getElem?_set_self hjl⟩, hk2.symm, ⟨q, r, hr, hn, hk, hst⟩, ho⟩
      · rename_i hk2
        obtain ⟨⟨q2, h1, h2⟩, h3, h4, h5⟩ := W.ent k2 e2 he
        refine ⟨⟨q2, h1, ?_⟩, h3, h4, h5⟩
        simp only
        rw [List.getElem?_set_ne (by rintro rfl; exact hk2 h1)]
        exact h2
    · intro q2 g2 hq
      simp only at hq ⊢
      rw [gget_set]
      split
      · exact ⟨_, rfl⟩
      · rename_i hq2
        rw [List.getElem?_set_ne (by rintro rfl; exact hq2 rfl)] at hq
        exact W.tak q2 g2 hq
    · intro k1 k2 e1 e2 h1 h2 he
      simp only at h1 h2
      rw [gget_set] at h1 h2
      split at h1
      · rename_i hk1
        split at h2
        · rename_i hk2; rw [hk1, hk2]
        · obtain rfl := Option.some.inj h1
          exact absurd ⟨e2, wf_all W h2, he.symm⟩ hh
      · split at h2
        · obtain rfl := Option.some.inj h2
          exact absurd ⟨e1, wf_all W h1, he⟩ hh
        · exact W.hnd k1 k2 e1 e2 h1 h2 he
theorem newE_ok {o : Ky} {L : List UInt8} (h : newE o L = 0) : (1 ≤ o.1 ∧ o.1 ≤ 3 ∧ 0 ≤ o.2.1 ∧ o.2.1 ≤ 63 ∧ 1 ≤ o.2.2) ∧ tagE L = 0 := by
  unfold newE resE at h
  split at h
  · rename_i hp; exact ⟨hp.1, h⟩
  · omega
theorem newE_cases (o : Ky) (L : List UInt8) : (¬ (1 ≤ o.1 ∧ o.1 ≤ 3 ∧ 0 ≤ o.2.1 ∧ o.2.1 ≤ 63 ∧ 1 ≤ o.2.2) ∧ newE o L = 2) ∨ ((1 ≤ o.1 ∧ o.1 ≤ 3 ∧ 0 ≤ o.2.1 ∧ o.2.1 ≤ 63 ∧ 1 ≤ o.2.2) ∧ newE o L = tagE L) := by
  unfold newE resE posP
  by_cases h : 1 ≤ o.1 ∧ o.1 ≤ 3 ∧ 0 ≤ o.2.1 ∧ o.2.1 ≤ 63 ∧ 1 ≤ o.2.2
  · exact .inr ⟨h, if_pos ⟨h, .inl ⟨rfl, rfl, rfl, rfl⟩⟩⟩
  · exact .inl ⟨h, if_neg fun h2 => h h2.1⟩
theorem opnE_ok {S : Ts} {o : Ky} {L : List UInt8} {h : Int × Int} (h0 : opnE S o L h = 0) : newE o L = 0 ∧ objH h ∧ ¬ hasO S.R o ∧ ¬ hasH S.E h ∧ S.R.length < 2000 ∧ ∃ j g, freeS S.A = some (j, g) := by
  unfold opnE at h0
  by_cases h1 : newE o L = 0
  · rw [if_neg (by omega)] at h0
    by_cases h2 : objH h
    · rw [if_neg (by simpa using h2)] at h0
      split at h0
      · omega
      · rename_i h3
        split at h0
        · omega
        · rename_i h4
          refine ⟨h1, h2, fun hh => h3 (.inl hh), fun hh => h3 (.inr hh), by omega, ?_⟩
          cases hf : freeS S.A with
          | none => exact absurd (.inr hf) h4
          | some p => exact ⟨p.1, p.2, rfl⟩
    · rw [if_pos h2] at h0; omega
  · rw [if_pos h1] at h0; omega
theorem wf_app {n : Nat} {S : Ts} (W : Wf n S) {r : Rs} (hl : S.R.length < 2000) (hr : resR r = 0) (ho : ¬ hasO S.R r.out) (hg : r.out.2.2 ≤ 4294967295) : Wf n ⟨S.A, S.E, S.R ++ [r]⟩ := by
  refine ⟨W.len, W.bd, W.ok, by simp only [List.length_append, List.length_cons, List.length_nil]; omega, W.nd, ?_, W.tak, ?_, ?_, ?_, W.hnd⟩
  · intro k e he
    obtain ⟨h1, h2, ⟨q, r2, h3, h4⟩, h5⟩ := W.ent k e he
    exact ⟨h1, h2, ⟨q, r2, by simp only; rw [List.getElem?_append_left (List.getElem?_eq_some_iff.1 h3).1]; exact h3, h4⟩, h5⟩
  · intro r2 h2
    rcases List.mem_append.1 h2 with h3 | h3
    · exact W.res r2 h3
    · rw [List.mem_singleton.1 h3]; exact hr
  · simp only [List.map_append, List.map_cons, List.map_nil]
    refine List.nodup_append.2 ⟨W.out, by simp, ?_⟩
    intro a ha b hb hab
    obtain ⟨r2, h3, h4⟩ := List.mem_map.1 ha
    rw [List.mem_singleton.1 hb] at hab
    exact ho ⟨r2, h3, h4.trans hab⟩
  · intro r2 h2
    rcases List.mem_append.1 h2 with h3 | h3
    · exact W.og r2 h3
    · rw [List.mem_singleton.1 h3]; exact hg
theorem wf_opn {n : Nat} {S : Ts} (W : Wf n S) {o : Ky} (hg : o.2.2 ≤ 4294967295) (L : List UInt8) (h : Int × Int) : Wf n (opnS S o L h) := by
  unfold opnS
  split
  · rename_i h0
    obtain ⟨h1, h2, h3, h4, h5, _⟩ := opnE_ok h0
    have W2 := wf_app W (r := ⟨o, 1, 0, 0, 0, L⟩) h5 h1 h3 hg
    exact wf_add W2 (q := S.R.length) (r := ⟨o, 1, 0, 0, 0, L⟩) (by simp) rfl rfl rfl h2 h4
  · exact W
theorem dupE_ok {S : Ts} {d : Ky} {h : Int × Int} (h0 : dupE S d h = 0) : objH h ∧ fndE S d = 0 ∧ ¬ hasH S.E h ∧ ∃ j g, freeS S.A = some (j, g) := by
  unfold dupE at h0
  by_cases h2 : objH h
  · rw [if_neg (by simpa using h2)] at h0
    by_cases h1 : fndE S d = 0
    · rw [if_neg (by omega)] at h0
      split at h0
      · omega
      · rename_i h3
        split at h0
        · omega
        · rename_i h4
          refine ⟨h2, h1, h3, ?_⟩
          cases hf : freeS S.A with
          | none => exact absurd hf h4
          | some p => exact ⟨p.1, p.2, rfl⟩
    · rw [if_pos h1] at h0; omega
  · rw [if_pos h2] at h0; omega
theorem wf_dup {n : Nat} {S : Ts} (W : Wf n S) (d : Ky) (h : Int × Int) : Wf n (dupS S d h) := by
  unfold dupS
  split
  · rename_i h0
    obtain ⟨h1, h2, h3, _⟩ := dupE_ok h0
    obtain ⟨hg, e, he, hd⟩ := fndE_ok.1 h2
    obtain ⟨_, _, ⟨q, r, h4, h5, h6, h7⟩, _⟩ := W.ent _ e he
    rw [(fndX_ok hg he hd).2]
    exact wf_add W h4 h5 (by rw [h6, hd]) h7 h1 h3
  · exact W
theorem wf_drop {n : Nat} {S : Ts} (W : Wf n S) {d : Ky} {e : Ety} (he : gget S.E d.2.1 = some e) (hd : e.d = d) : Wf n (dropS S d) := by
  obtain ⟨q, h1, h2, h3⟩ := wf_slot W he
  have hq : d.2.1.toNat = q := by omega
  have hql : q < S.A.length := by rw [W.len]; exact h2
  have hg := wf_good W he
  rw [hd] at hg h3
  have hd4 := W.ok _ (List.mem_of_getElem? h3)
  simp only at hd4
  unfold dropS
  rw [hq]
  refine ⟨by simp only; rw [giveA_len]; exact W.len, W.bd, slOk_give W.ok h3 rfl, W.rl, kn_del W.nd, ?_, ?_, W.res, W.out, W.og, ?_⟩
  · intro k2 e2 h5
    simp only at h5
    by_cases hk : k2 = d.2.1
    · subst hk; rw [gget_del_self W.nd] at h5; cases h5
    · rw [gget_del hk] at h5
      obtain ⟨⟨q2, h6, h7⟩, h8⟩ := W.ent k2 e2 h5
      refine ⟨⟨q2, h6, ?_⟩, h8⟩
      simp only
      rw [giveA_get (by rintro rfl; exact hk (h6.trans h1.symm))]
      exact h7
  · intro q2 g2 h5
    simp only at h5 ⊢
    by_cases hk : q2 = q
    · subst hk
      rw [giveA_self hql] at h5
      split at h5 <;> simp at h5
    · rw [giveA_get hk] at h5
      rw [gget_del (by omega)]
      exact W.tak q2 g2 h5
  · intro k1 k2 e1 e2 h5 h6 h7
    simp only at h5 h6
    by_cases hk1 : k1 = d.2.1
    · subst hk1; rw [gget_del_self W.nd] at h5; cases h5
    · by_cases hk2 : k2 = d.2.1
      · subst hk2; rw [gget_del_self W.nd] at h6; cases h6
      · rw [gget_del hk1] at h5
        rw [gget_del hk2] at h6
        exact W.hnd k1 k2 e1 e2 h5 h6 h7
theorem wf_cls {n : Nat} {S : Ts} (W : Wf n S) (d : Ky) : Wf n (clsS S d) := by
  unfold clsS
  split
  · rename_i h0
    obtain ⟨_, e, h1, h2⟩ := fndE_ok.1 h0
    exact wf_drop W h1 h2
  · exact W
/-- The descriptors of a resource are entries of the table, each once. -/
theorem mem_descs {E : Tm} {v : Int} {d : Ky} : d ∈ descs E v ↔ ∃ e ∈ allE E, e.num = v ∧ e.d = d := by
  unfold descs
  rw [List.mem_filterMap]
  constructor
  · rintro ⟨e, h1, h2⟩
    split at h2
    · rename_i h3; exact ⟨e, h1, h3, Option.some.inj h2⟩
    · cases h2
  · rintro ⟨e, h1, h2, h3⟩
    exact ⟨e, h1, by rw [if_pos h2, h3]⟩
theorem wf_mem {n : Nat} {S : Ts} (W : Wf n S) {e : Ety} (h : e ∈ allE S.E) : gget S.E e.d.2.1 = some e := by
  obtain ⟨k, hk, he⟩ := mem_allE.1 h
  rw [(W.ent _ e he).2.1]
  exact he
/-- The slots of the entries, in order, are all different. -/
theorem someE_lt {n : Nat} {S : Ts} (W : Wf n S) (k : Nat) : ((someE S.E k).map (·.d.2.1)).Pairwise (· < ·) ∧ ∀ e ∈ someE S.E k, e.d.2.1 < (k : Int) := by
  induction k with
  | zero => exact ⟨List.Pairwise.nil, fun e he => by simp [someE] at he⟩
  | succ k ih =>
    cases hg : gget S.E (k : Int) with
    | none => rw [someE_no hg]; exact ⟨ih.1, fun e he => by have := ih.2 e he; omega⟩
    | some e =>
      have hk := (W.ent _ e hg).2.1
      rw [someE_go hg]
      constructor
      · rw [List.map_append, List.pairwise_append]
        refine ⟨ih.1, by simp, ?_⟩
        intro a ha b hb
        obtain ⟨x, h1, rfl⟩ := List.mem_map.1 ha
        simp only [List.map_cons, List.map_nil, List.mem_singleton] at hb
        rw [hb, hk]
        exact ih.2 x h1
      · intro x hx
        rcases List.mem_append.1 hx with h1 | h1
        · have := ih.2 x h1; omega
        · rw [List.mem_singleton.1 h1, hk]; omega
theorem allE_lt {n : Nat} {S : Ts} (W : Wf n S) : ((allE S.E).map (·.d.2.1)).Pairwise (· < ·) := (someE_lt W 256).1
theorem descs_sub (E : Tm) (v : Int) : (descs E v).Sublist ((allE E).map (·.d)) := by
  unfold descs
  induction allE E with
  | nil => exact List.Sublist.refl _
  | cons e L ih =>
    simp only [List.filterMap_cons, List.map_cons]
    split
    · exact List.Sublist.cons _ ih
    · rename_i h
      split at h
      · obtain rfl := Option.some.inj h; exact List.Sublist.cons_cons _ ih
      · cases h
theorem descs_lt {n : Nat} {S : Ts} (W : Wf n S) (v : Int) : ((descs S.E v).map (·.2.1)).Pairwise (· < ·) := by
  have h := allE_lt W
  have h2 : (allE S.E).map (·.d.2.1) = ((allE S.E).map (·.d)).map (·.2.1) := by rw [List.map_map]; rfl
  rw [h2] at h
  exact h.sublist ((descs_sub S.E v).map _)
theorem descs_nil {n : Nat} {S : Ts} (W : Wf n S) {v : Int} (h : ¬ (1 ≤ v ∧ v ≤ (S.R.length : Int))) : descs S.E v = [] := by
  cases hd : descs S.E v with
  | nil => rfl
  | cons d D =>
    have hm : d ∈ descs S.E v := by rw [hd]; exact List.mem_cons_self
    obtain ⟨e, h1, h2, h3⟩ := mem_descs.1 hm
    obtain ⟨_, _, ⟨q, r, h4, h5, _⟩, _⟩ := W.ent _ e (wf_mem W h1)
    have := (List.getElem?_eq_some_iff.1 h4).1
    omega
/-- Several descriptors that are there, of different slots, are dropped. -/
theorem wf_drops {n : Nat} : ∀ {D : List Ky} {S : Ts}, Wf n S → (∀ d ∈ D, ∃ e, gget S.E d.2.1 = some e ∧ e.d = d) → (D.map (·.2.1)).Pairwise (· < ·) → Wf n (D.foldl dropS S)
  | [], _, W, _, _ => W
  | d :: D, S, W, h, hp => by
    obtain ⟨e, h1, h2⟩ := h d List.mem_cons_self
    rw [List.map_cons, List.pairwise_cons] at hp
    refine wf_drops (D := D) (S := dropS S d) (wf_drop W h1 h2) (fun d2 hd2 => ?_) hp.2
    obtain ⟨e2, h3, h4⟩ := h d2 (List.mem_cons_of_mem _ hd2)
    have := hp.1 _ (List.mem_map_of_mem (f := (·.2.1)) hd2)
    exact ⟨e2, by unfold dropS; simp only; rw [gget_del (by omega)]; exact h3, h4⟩
theorem wf_exp {n : Nat} {S : Ts} (W : Wf n S) (v : Int) : Wf n (expS S v) := wf_drops W (fun d hd => by
  obtain ⟨e, h1, _, h3⟩ := mem_descs.1 hd
  exact ⟨e, by rw [← h3]; exact wf_mem W h1, h3⟩) (descs_lt W v)
theorem set_self {α : Type} {l : List α} {i : Nat} {x : α} (h : l[i]? = some x) : l.set i x = l := by
  apply List.ext_getElem?
  intro j
  by_cases hj : i = j
  · subst hj
    rw [List.getElem?_set_self (List.getElem?_eq_some_iff.1 h).1, h]
  · rw [List.getElem?_set_ne hj]
theorem setE_ok {S : Ts} {v : Int} {r : Rs} (h0 : setE S v r = 0) : (1 ≤ v ∧ v ≤ (S.R.length : Int)) ∧ resR r = 0 ∧ r.out = (getR S v).out ∧ r.tag = (getR S v).tag ∧ (r.st = 1 ∨ (descs S.E v).length = 0) := by
  unfold setE at h0
  split at h0
  · omega
  · rename_i h1
    split at h0
    · omega
    · rename_i h2
      split at h0
      · omega
      · rename_i h3
        split at h0
        · omega
        · rename_i h4
          refine ⟨?_, by omega, ?_, ?_, by omega⟩
          · unfold nE at h1
            split at h1
            · assumption
            · omega
          · exact Classical.byContradiction fun h => h3 (.inl h)
          · exact Classical.byContradiction fun h => h3 (.inr h)
theorem getR_at {S : Ts} {v : Int} (h : 1 ≤ v ∧ v ≤ (S.R.length : Int)) : S.R[(v - 1).toNat]? = some (getR S v) := by
  have hl : (v - 1).toNat < S.R.length := by omega
  unfold getR
  rw [if_pos h.1, List.getElem?_eq_getElem hl]
  rfl
theorem getR_no {S : Ts} {v : Int} (h : ¬ (1 ≤ v ∧ v ≤ (S.R.length : Int))) : getR S v = rs0 := by
  unfold getR
  split
  · rw [List.getElem?_eq_none (by omega)]; rfl
  · rfl
theorem wf_set {n : Nat} {S : Ts} (W : Wf n S) (v : Int) (r : Rs) : Wf n (setS S v r) := by
  unfold setS
  split
  · rename_i h0
    obtain ⟨h1, h2, h3, h4, h5⟩ := setE_ok h0
    have hg := getR_at h1
    have hl := (List.getElem?_eq_some_iff.1 hg).1
    refine ⟨W.len, W.bd, W.ok, by simp only [List.length_set]; exact W.rl, W.nd, ?_, W.tak, ?_, ?_, ?_, W.hnd⟩
    · intro k e he
      obtain ⟨e1, e2, ⟨q, r2, e3, e4, e5, e6⟩, e7⟩ := W.ent k e he
      refine ⟨e1, e2, ?_, e7⟩
      by_cases hq : q = (v - 1).toNat
      · refine ⟨q, r, by simp only; rw [hq, List.getElem?_set_self hl], e4, ?_, ?_⟩
        · subst hq
          rw [hg] at e3
          obtain rfl := Option.some.inj e3
          rw [h3]; exact e5
        · rcases h5 with h5 | h5
          · exact h5
          · exfalso
            have hm : e.d ∈ descs S.E v := mem_descs.2 ⟨e, wf_all W he, by omega, rfl⟩
            rw [List.length_eq_zero_iff.1 h5] at hm
            cases hm
      · exact ⟨q, r2, by simp only; rw [List.getElem?_set_ne (Ne.symm hq)]; exact e3, e4, e5, e6⟩
    · intro r2 hr2
      rcases List.mem_or_eq_of_mem_set hr2 with h6 | h6
      · exact W.res r2 h6
      · rw [h6]; exact h2
    · have : (S.R.set (v - 1).toNat r).map (·.out) = S.R.map (·.out) := by
        rw [List.map_set]
        have h7 : (S.R.map (·.out))[(v - 1).toNat]? = some r.out := by rw [List.getElem?_map, hg, h3]; rfl
        rw [set_self h7]
      simp only
      rw [this]
      exact W.out
    · intro r2 hr2
      rcases List.mem_or_eq_of_mem_set hr2 with h6 | h6
      · exact W.og r2 h6
      · rw [h6, h3]; exact W.og _ (List.mem_of_getElem? hg)
  · exact W
theorem wf_new {n : Nat} {g : Int} (hn : 1 ≤ n ∧ n ≤ 256) (hg : 1 ≤ g ∧ g ≤ 4294967295) : Wf n ⟨List.replicate n (0, g), [], []⟩ := by
  refine ⟨List.length_replicate, hn, ?_, by simp, List.nodup_nil, ?_, ?_, ?_, List.nodup_nil, (fun r hr => by cases hr), ?_⟩
  · intro s hs
    have := List.eq_of_mem_replicate hs
    subst this
    simp only
    omega
  · intro k e he; cases he
  · intro q g2 hq
    simp only at hq
    rw [List.getElem?_replicate] at hq
    split at hq
    · simp at hq
    · cases hq
  · intro r hr; cases hr
  · intro k1 k2 e1 e2 h1; cases h1
end Go.Proofs.Ytjjpmehiolejgaa
