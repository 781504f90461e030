/-
  What is true of a table behind turns. No program in sight.
-/
import Derived.Test.YtjjpmehiolejgaaTabL
namespace Go.Proofs.Ytjjpmehiolejgaa
/-- No descriptor was given that its slot could give again. -/
def GenI (A : List Sl2) (al : List Ky) : Prop := ∀ d ∈ al, goodD d ∧ d.2.2 ≤ 4294967295 ∧ ∃ (q : Nat) (s : Sl2), d.2.1 = (q : Int) ∧ A[q]? = some s ∧ (d.2.2 < s.2 ∨ (d.2.2 = s.2 ∧ s.1 ≠ 0))
/-- A resource lives as long as it has descriptors. -/
def LvI (S : Ts) : Prop := ∀ (q : Nat) (r : Rs), S.R[q]? = some r → (r.st = 1 ↔ 0 < (descs S.E ((q : Int) + 1)).length)
structure MInv (n : Nat) (p : Tp) : Prop where
  W : Wf n p.1
  nd : p.2.Nodup
  gen : GenI p.1.A p.2
  ent : ∀ (k : Int) (e : Ety), gget p.1.E k = some e → e.d ∈ p.2
  lv : LvI p.1
theorem dpos {n : Nat} {S : Ts} (W : Wf n S) {v : Int} : 0 < (descs S.E v).length ↔ ∃ (k : Int) (e : Ety), gget S.E k = some e ∧ e.num = v := by
  constructor
  · intro h
    obtain ⟨e, h1, _, h3⟩ := descs_at W (List.getElem_mem h)
    exact ⟨_, e, h1, h3⟩
  · rintro ⟨k, e, h1, h2⟩
    exact List.length_pos_of_mem (mem_descs.2 ⟨e, wf_all W h1, h2, rfl⟩)
theorem free_no {n : Nat} {S : Ts} (W : Wf n S) {j : Nat} {g : Int} (h : freeS S.A = some (j, g)) : gget S.E (j : Int) = none := by
  cases hg : gget S.E (j : Int) with
  | none => rfl
  | some e =>
    obtain ⟨q2, h1, _, h2⟩ := wf_slot W hg
    obtain rfl : j = q2 := by omega
    rw [freeS_some h] at h2
    simp at h2
theorem gen_set {A : List Sl2} {al : List Ky} {j : Nat} {g : Int} (h : GenI A al) (hj : A[j]? = some (0, g)) : GenI (A.set j (1, g)) al := fun d hd => by
  obtain ⟨h1, h0, q, s, h2, h3, h4⟩ := h d hd
  refine ⟨h1, h0, ?_⟩
  by_cases hq : j = q
  · subst hq
    rw [hj] at h3
    obtain rfl := Option.some.inj h3
    exact ⟨j, (1, g), h2, List.getElem?_set_self (List.getElem?_eq_some_iff.1 hj).1, by simp only at h4 ⊢; omega⟩
  · exact ⟨q, s, h2, by rw [List.getElem?_set_ne hq]; exact h3, h4⟩
theorem gen_new {A : List Sl2} {al : List Ky} {j : Nat} {g k : Int} (h : GenI A al) (hj : A[j]? = some (0, g)) : (k, (j : Int), g) ∉ al := fun hm => by
  obtain ⟨_, _, q, s, h2, h3, h4⟩ := h _ hm
  simp only at h2 h4
  obtain rfl : j = q := by omega
  rw [hj] at h3
  obtain rfl := Option.some.inj h3
  simp only at h4
  omega
theorem gen_give {A : List Sl2} {al : List Ky} {j : Nat} {g : Int} (h : GenI A al) (hj : A[j]? = some (1, g)) : GenI (giveA A j g) al := fun d hd => by
  obtain ⟨h1, h0, q, s, h2, h3, h4⟩ := h d hd
  refine ⟨h1, h0, ?_⟩
  by_cases hq : q = j
  · subst hq
    rw [hj] at h3
    obtain rfl := Option.some.inj h3
    refine ⟨q, _, h2, giveA_self (List.getElem?_eq_some_iff.1 hj).1, ?_⟩
    split
    · simp only at h4 ⊢; omega
    · simp only at h4 ⊢; omega
  · exact ⟨q, s, h2, by rw [giveA_get hq]; exact h3, h4⟩
theorem gen_drop {n : Nat} {S : Ts} (W : Wf n S) {al : List Ky} (h : GenI S.A al) {d : Ky} {e : Ety} (he : gget S.E d.2.1 = some e) (hd : e.d = d) : GenI (dropS S d).A al := by
  obtain ⟨q, h1, _, h3⟩ := wf_slot W he
  rw [hd] at h3
  have hq : d.2.1.toNat = q := by omega
  unfold dropS
  rw [hq]
  exact gen_give h h3
theorem gen_drops {n : Nat} {al : List Ky} : ∀ {D : List Ky} {S : Ts}, Wf n S → GenI S.A al → (∀ d ∈ D, ∃ e, gget S.E d.2.1 = some e ∧ e.d = d) → (D.map (·.2.1)).Pairwise (· < ·) → GenI (D.foldl dropS S).A al
  | [], _, _, h, _, _ => h
  | d :: D, S, W, h, hd, hp => by
    obtain ⟨e, h1, h2⟩ := hd d List.mem_cons_self
    rw [List.map_cons, List.pairwise_cons] at hp
    refine gen_drops (D := D) (S := dropS S d) (wf_drop W h1 h2) (gen_drop W h h1 h2) (fun d2 hd2 => ?_) hp.2
    obtain ⟨e2, h3, h4⟩ := hd d2 (List.mem_cons_of_mem _ hd2)
    have := hp.1 _ (List.mem_map_of_mem (f := (·.2.1)) hd2)
    exact ⟨e2, by unfold dropS; simp only; rw [gget_del (by omega)]; exact h3, h4⟩
theorem gen_exp {n : Nat} {S : Ts} (W : Wf n S) {al : List Ky} (h : GenI S.A al) (v : Int) : GenI (expS S v).A al := gen_drops W h (fun d hd => by
  obtain ⟨e, h1, h2, _⟩ := descs_at W hd
  exact ⟨e, h1, h2⟩) (descs_lt W v)
theorem gen_app {A : List Sl2} {al : List Ky} {d : Ky} (h : GenI A al) (h1 : goodD d) (h0 : d.2.2 ≤ 4294967295) {q : Nat} {s : Sl2} (h2 : d.2.1 = (q : Int)) (h3 : A[q]? = some s) (h4 : d.2.2 = s.2 ∧ s.1 ≠ 0) : GenI A (al ++ [d]) := fun d2 hd2 => by
  rcases List.mem_append.1 hd2 with h5 | h5
  · exact h d2 h5
  · rw [List.mem_singleton.1 h5]
    exact ⟨h1, h0, q, s, h2, h3, .inr h4⟩
/-- One more descriptor, of a resource that lives. -/
theorem minv_add {n : Nat} {S : Ts} {al : List Ky} (h : MInv n (S, al)) {k num : Int} {hh : Int × Int} {j : Nat} {g : Int} (hf : freeS S.A = some (j, g)) {q : Nat} {r : Rs} (hr : S.R[q]? = some r) (hn : num = (q : Int) + 1) (hk : r.out.1 = k) (hst : r.st = 1) (ho : objH hh) (hno : ¬ hasH S.E hh) (lv : ∀ (q2 : Nat) (r2 : Rs), S.R[q2]? = some r2 → (r2.st = 1 ↔ 0 < (descs (addS S k num hh).E ((q2 : Int) + 1)).length)) : MInv n (addS S k num hh, al ++ [(k, (j : Int), g)]) := by
  have W2 := wf_add h.W hr hn hk hst ho hno
  have hj := freeS_some hf
  have hA : addS S k num hh = ⟨S.A.set j (1, g), gset S.E (j : Int) ⟨(k, (j : Int), g), num, hh⟩, S.R⟩ := by unfold addS; simp only [hf]
  have hR := h.W.res r (List.mem_of_getElem? hr)
  have hjl := (List.getElem?_eq_some_iff.1 hj).1
  have hsl := h.W.ok _ (List.mem_of_getElem? hj)
  have hb := h.W.bd
  have hl := h.W.len
  simp only at hsl hl hR
  have hgd : goodD (k, (j : Int), g) := by
    unfold resR resE at hR
    split at hR
    · rename_i hp
      have hx := hp.1
      unfold goodD
      simp only
      rw [hl] at hjl
      omega
    · omega
  refine ⟨W2, ?_, ?_, ?_, ?_⟩
  · show (al ++ [(k, (j : Int), g)]).Nodup
    refine List.nodup_append.2 ⟨h.nd, by simp, fun a ha b hb2 hab => ?_⟩
    rw [List.mem_singleton.1 hb2] at hab
    rw [hab] at ha
    exact gen_new h.gen hj ha
  · show GenI (addS S k num hh).A (al ++ [(k, (j : Int), g)])
    rw [hA]
    exact gen_app (gen_set h.gen hj) hgd (by simp only; omega) rfl (List.getElem?_set_self hjl) ⟨rfl, Int.one_ne_zero⟩
  · intro k2 e2 he
    simp only at he ⊢
    rw [hA] at he
    simp only at he
    rw [gget_set] at he
    split at he
    · obtain rfl := Option.some.inj he
      exact List.mem_append.2 (.inr (by simp))
    · exact List.mem_append.2 (.inl (h.ent k2 e2 he))
  · intro q2 r2 hq2
    have : (addS S k num hh).R = S.R := by rw [hA]
    simp only at hq2
    rw [this] at hq2
    exact lv q2 r2 hq2
theorem add_descs {n : Nat} {S : Ts} (W : Wf n S) {k num : Int} {hh : Int × Int} {j : Nat} {g : Int} (hf : freeS S.A = some (j, g)) (W2 : Wf n (addS S k num hh)) (v : Int) : 0 < (descs (addS S k num hh).E v).length ↔ v = num ∨ 0 < (descs S.E v).length := by
  have hA : addS S k num hh = ⟨S.A.set j (1, g), gset S.E (j : Int) ⟨(k, (j : Int), g), num, hh⟩, S.R⟩ := by unfold addS; simp only [hf]
  rw [dpos W2, dpos W, hA]
  simp only [gget_set]
  constructor
  · rintro ⟨k2, e2, h1, h2⟩
    split at h1
    · obtain rfl := Option.some.inj h1
      exact .inl h2.symm
    · exact .inr ⟨k2, e2, h1, h2⟩
  · rintro (h1 | ⟨k2, e2, h1, h2⟩)
    · exact ⟨(j : Int), _, if_pos rfl, h1.symm⟩
    · refine ⟨k2, e2, ?_, h2⟩
      rw [if_neg, h1]
      rintro rfl
      rw [free_no W hf] at h1
      cases h1
theorem minv_opn {n : Nat} {S : Ts} {al : List Ky} (h : MInv n (S, al)) {o : Ky} (hg : o.2.2 ≤ 4294967295) {L : List UInt8} {hh : Int × Int} : MInv n (opnS S o L hh, if opnE S o L hh = 0 then al ++ [opnD S o L hh] else al) := by
  by_cases h0 : opnE S o L hh = 0
  · obtain ⟨h1, h2, h3, h4, h5, j, g, h6⟩ := opnE_ok h0
    have W1 := wf_app h.W (r := ⟨o, 1, 0, 0, 0, L⟩) h5 h1 h3 hg
    have hr : (S.R ++ [(⟨o, 1, 0, 0, 0, L⟩ : Rs)])[S.R.length]? = some ⟨o, 1, 0, 0, 0, L⟩ := by simp
    have hnew : ¬ 0 < (descs S.E ((S.R.length : Int) + 1)).length := by
      have := descs_nil (S := S) h.W (v := (S.R.length : Int) + 1) (by omega)
      rw [this]
      simp
    have h7 : MInv n ((⟨S.A, S.E, S.R ++ [⟨o, 1, 0, 0, 0, L⟩]⟩ : Ts), al) ∨ True := .inr trivial
    have W2 := wf_add W1 (q := S.R.length) (r := ⟨o, 1, 0, 0, 0, L⟩) (k := o.1) (num := (S.R.length : Int) + 1) (h := hh) hr rfl rfl rfl h2 h4
    have hlv := add_descs W1 (k := o.1) (num := (S.R.length : Int) + 1) (hh := hh) h6 W2
    have hS : opnS S o L hh = addS ⟨S.A, S.E, S.R ++ [⟨o, 1, 0, 0, 0, L⟩]⟩ o.1 ((S.R.length : Int) + 1) hh := if_pos h0
    have hD : opnD S o L hh = (o.1, (j : Int), g) := by unfold opnD addD; rw [if_pos h0]; simp only [h6]
    rw [hS, if_pos h0, hD]
    have hj := freeS_some h6
    have hA : addS ⟨S.A, S.E, S.R ++ [⟨o, 1, 0, 0, 0, L⟩]⟩ o.1 ((S.R.length : Int) + 1) hh = ⟨S.A.set j (1, g), gset S.E (j : Int) ⟨(o.1, (j : Int), g), (S.R.length : Int) + 1, hh⟩, S.R ++ [⟨o, 1, 0, 0, 0, L⟩]⟩ := by unfold addS; simp only [h6]
    have hjl := (List.getElem?_eq_some_iff.1 hj).1
    have hsl := h.W.ok _ (List.mem_of_getElem? hj)
    have hb := h.W.bd
    have hl := h.W.len
    simp only at hsl hl
    have hn := newE_ok h1
    have hgd : goodD (o.1, (j : Int), g) := by
      unfold goodD
      simp only
      rw [hl] at hjl
      omega
    refine ⟨W2, ?_, ?_, ?_, ?_⟩
    · show (al ++ [(o.1, (j : Int), g)]).Nodup
      refine List.nodup_append.2 ⟨h.nd, by simp, fun a ha b hb2 hab => ?_⟩
      rw [List.mem_singleton.1 hb2] at hab
      rw [hab] at ha
      exact gen_new h.gen hj ha
    · simp only
      rw [hA]
      exact gen_app (gen_set h.gen hj) hgd (by simp only; omega) rfl (List.getElem?_set_self hjl) ⟨rfl, Int.one_ne_zero⟩
    · intro k2 e2 he
      simp only at he ⊢
      rw [hA] at he
      simp only at he
      rw [gget_set] at he
      split at he
      · obtain rfl := Option.some.inj he
        exact List.mem_append.2 (.inr (by simp))
      · exact List.mem_append.2 (.inl (h.ent k2 e2 he))
    · intro q2 r2 hq2
      simp only
      rw [hlv]
      simp only at hq2 ⊢
      rw [hA] at hq2
      simp only at hq2
      by_cases hq : q2 = S.R.length
      · subst hq
        rw [hr] at hq2
        obtain rfl := Option.some.inj hq2
        exact ⟨fun _ => .inl rfl, fun _ => rfl⟩
      · have hql : q2 < S.R.length := by
          have := (List.getElem?_eq_some_iff.1 hq2).1
          simp only [List.length_append, List.length_cons, List.length_nil] at this
          omega
        rw [List.getElem?_append_left hql] at hq2
        have := h.lv q2 r2 hq2
        simp only at this
        rw [this]
        constructor
        · exact .inr
        · rintro (h8 | h8)
          · omega
          · exact h8
  · have hS : opnS S o L hh = S := if_neg h0
    rw [hS, if_neg h0]
    exact h
theorem minv_dup {n : Nat} {S : Ts} {al : List Ky} (h : MInv n (S, al)) {d : Ky} {hh : Int × Int} : MInv n (dupS S d hh, if dupE S d hh = 0 then al ++ [dupD S d hh] else al) := by
  by_cases h0 : dupE S d hh = 0
  · obtain ⟨h1, h2, h3, j, g, h6⟩ := dupE_ok h0
    obtain ⟨hg, e, he, hd⟩ := fndE_ok.1 h2
    obtain ⟨_, _, ⟨q, r, h4, h5, h7, h8⟩, _⟩ := h.W.ent _ e he
    have hX := (fndX_ok hg he hd).2
    have hS : dupS S d hh = addS S d.1 e.num hh := by unfold dupS; rw [if_pos h0, hX]
    have hD : dupD S d hh = (d.1, (j : Int), g) := by unfold dupD addD; rw [if_pos h0, h6]
    have hk : r.out.1 = d.1 := by rw [h7, hd]
    rw [hS, if_pos h0, hD]
    refine minv_add h h6 h4 h5 hk h8 h1 h3 fun q2 r2 hq2 => ?_
    rw [add_descs h.W h6 (wf_add h.W h4 h5 hk h8 h1 h3), h.lv q2 r2 hq2]
    constructor
    · exact .inr
    · rintro (h9 | h9)
      · exact (dpos h.W).2 ⟨_, e, he, h9.symm⟩
      · exact h9
  · have hS : dupS S d hh = S := if_neg h0
    rw [hS, if_neg h0]
    exact h
/-- A resource without descriptors is made one that has to be released. -/
theorem lv_lvI {S : Ts} {v : Int} (hv : 1 ≤ v ∧ v ≤ (S.R.length : Int)) (hd : (descs S.E v).length = 0) (lv : ∀ (q : Nat) (r : Rs), S.R[q]? = some r → (q : Int) + 1 ≠ v → (r.st = 1 ↔ 0 < (descs S.E ((q : Int) + 1)).length)) : LvI (lvS S v) := fun q r hq => by
  unfold lvS at hq ⊢
  simp only at hq ⊢
  by_cases hqv : q = (v - 1).toNat
  · subst hqv
    rw [List.getElem?_set_self (by omega)] at hq
    obtain rfl := Option.some.inj hq
    rw [show (((v - 1).toNat : Nat) : Int) + 1 = v from by omega]
    unfold lvR
    simp only
    omega
  · rw [List.getElem?_set_ne (Ne.symm hqv)] at hq
    exact lv q r hq (by omega)
theorem drop_descs {n : Nat} {S : Ts} (W : Wf n S) {d : Ky} {e : Ety} (he : gget S.E d.2.1 = some e) (hd : e.d = d) {v : Int} (hv : v ≠ e.num) : 0 < (descs (dropS S d).E v).length ↔ 0 < (descs S.E v).length := by
  rw [dpos (wf_drop W he hd), dpos W]
  unfold dropS
  simp only
  constructor
  · rintro ⟨k, e2, h1, h2⟩
    by_cases hk : k = d.2.1
    · subst hk; rw [gget_del_self W.nd] at h1; cases h1
    · rw [gget_del hk] at h1; exact ⟨k, e2, h1, h2⟩
  · rintro ⟨k, e2, h1, h2⟩
    refine ⟨k, e2, ?_, h2⟩
    rw [gget_del]
    · exact h1
    · rintro rfl
      rw [he] at h1
      obtain rfl := Option.some.inj h1
      exact hv h2.symm
theorem minv_lcl {n : Nat} {S : Ts} {al : List Ky} (h : MInv n (S, al)) (d : Ky) : MInv n (lclS S d, al) := by
  by_cases h0 : fndE S d = 0
  · obtain ⟨hg, e, he, hd⟩ := fndE_ok.1 h0
    have hX := (fndX_ok hg he hd).2
    have hS := (cls_ok' h0)
    have hent := ent_live h.W he
    have gen := gen_drop h.W h.gen he hd
    have ent : ∀ (k : Int) (e2 : Ety), gget (dropS S d).E k = some e2 → e2.d ∈ al := fun k e2 h1 => by
      unfold dropS at h1
      simp only at h1
      by_cases hk : k = d.2.1
      · subst hk; rw [gget_del_self h.W.nd] at h1; cases h1
      · rw [gget_del hk] at h1; exact h.ent k e2 h1
    have lv : ∀ (q : Nat) (r : Rs), (dropS S d).R[q]? = some r → (q : Int) + 1 ≠ e.num → (r.st = 1 ↔ 0 < (descs (dropS S d).E ((q : Int) + 1)).length) := fun q r h1 h2 => by
      rw [drop_descs h.W he hd h2]
      exact h.lv q r h1
    have W3 := wf_lcl h.W d
    by_cases hl : clsL S d = true
    · have hL : lclS S d = lvS (dropS S d) e.num := by unfold lclS; rw [if_pos hl, hS, hX]
      have hd0 := (clsL_ok hl).2
      rw [hS, hX] at hd0
      rw [hL] at W3 ⊢
      exact ⟨W3, h.nd, gen, ent, lv_lvI (S := dropS S d) hent.1 hd0 lv⟩
    · have hL : lclS S d = dropS S d := by unfold lclS; rw [if_neg hl, hS]
      rw [hL] at W3 ⊢
      refine ⟨W3, h.nd, gen, ent, fun q r h1 => ?_⟩
      by_cases hq : (q : Int) + 1 = e.num
      · have h1' : S.R[q]? = some r := h1
        have hst := hent.2.1
        have hgr := getR_at hent.1
        rw [show (e.num - 1).toNat = q from by omega] at hgr
        simp only at hgr hst
        rw [h1'] at hgr
        rw [← Option.some.inj hgr] at hst
        refine ⟨fun _ => ?_, fun _ => hst⟩
        unfold clsL at hl
        rw [hX] at hl
        have := of_decide_eq_false (by simpa using hl : decide (fndE S d = 0 ∧ (descs (dropS S d).E e.num).length = 0) = false)
        simp only
        rw [hq]
        omega
      · exact lv q r h1 hq
  · have hl : clsL S d = false := decide_eq_false fun h2 => h0 h2.1
    have hL : lclS S d = S := by unfold lclS clsS; rw [if_neg (by rw [hl]; decide), if_neg h0]
    rw [hL]
    exact h
theorem minv_exp {n : Nat} {S : Ts} {al : List Ky} (h : MInv n (S, al)) {d : Ky} (hd : d ∈ liveL S.E) : MInv n (lvS (expS S (fndX S d).num) (fndX S d).num, al) := by
  obtain ⟨h1, h2, h3⟩ := exp_live h.W hd
  refine ⟨wf_lv (wf_exp h.W _) h1 h2 h3, h.nd, gen_exp h.W h.gen _, fun k e he => ?_, ?_⟩
  · have he' : gget (expS S (fndX S d).num).E k = some e := he
    exact h.ent k e ((exp_get h.W).1 he').1
  · refine lv_lvI h1 h3 fun q r hq hne => ?_
    rw [exp_R] at hq
    rw [h.lv q r hq, dpos h.W, dpos (wf_exp h.W _)]
    constructor
    · rintro ⟨k, e, h4, h5⟩
      exact ⟨k, e, (exp_get h.W).2 ⟨h4, by omega⟩, h5⟩
    · rintro ⟨k, e, h4, h5⟩
      exact ⟨k, e, ((exp_get h.W).1 h4).1, h5⟩
theorem minv_turn {n : Nat} {p : Tp} (h : MInv n p) {i : Nat} (hi : i ≤ 1000000) {m : Mv} (hm : 0 ≤ m.2) : MInv n (turnS p i m) := by
  obtain ⟨S, al⟩ := p
  unfold turnS
  split
  · exact minv_opn h (by unfold tO; simp only; omega)
  · split
    · exact h
    · rename_i hl
      split
      · exact minv_dup h
      · split
        · exact minv_lcl h _
        · exact minv_exp h (tD_mem hl hm)
theorem minv_new {n : Nat} {g : Int} (hn : 1 ≤ n ∧ n ≤ 256) (hg : 1 ≤ g ∧ g ≤ 4294967295) : MInv n (⟨List.replicate n (0, g), [], []⟩, []) :=
  ⟨wf_new hn hg, List.nodup_nil, (fun d hd => by cases hd), (fun k e he => by cases he), (fun q r hq => by cases hq)⟩
theorem minv_made {n : Nat} {g : Int} (hn : 1 ≤ n ∧ n ≤ 256) (hg : 1 ≤ g ∧ g ≤ 4294967295) {T : List Mv} (hT : ∀ m ∈ T, MvOk m) : ∀ {k : Nat}, k ≤ T.length → k ≤ 1000000 → MInv n (madeK n g T k)
  | 0, _, _ => minv_new hn hg
  | k + 1, h1, h2 => by
    have ih := minv_made hn hg hT (k := k) (by omega) (by omega)
    have hk : T[k]? = some T[k] := List.getElem?_eq_getElem (by omega)
    show MInv n (turnS (madeK n g T k) k (T.getD k (0, 0)))
    rw [getD_some hk]
    exact minv_turn ih (by omega) (hT _ (List.getElem_mem (by omega))).2.1
section
variable {L : List Ky} {k : Nat} {x y : Ky} {b : Bool}
end
theorem lv_ok {n : Nat} {S : Ts} (W : Wf n S) {d : Ky} (hd : d ∈ liveL S.E) : 1 ≤ d.2.2 ∧ d.2.2 ≤ 4294967295 := ⟨(live_ok W hd).1.2.2.2.2, (live_ok W hd).2.2.1⟩
theorem is_there {n : Nat} {S : Ts} (W : Wf n S) {d : Ky} (hf : d ∈ liveL S.E) : fndE S (d.1, d.2.1, d.2.2) = 0 := (live_ok W hf).2.1
section
variable {n : Nat} {S : Ts} {v : Int}
end
theorem someE_set {E : Tm} {j : Nat} {e : Ety} (h : gget E (j : Int) = none) : ∀ k : Nat, (someE (gset E (j : Int) e) k).length = (someE E k).length + (if j < k then 1 else 0)
  | 0 => by simp [someE]
  | k + 1 => by
    have ih := someE_set (e := e) h k
    by_cases hk : k = j
    · subst hk
      rw [cntE_go (e := e) (by rw [gget_set, if_pos rfl]), cntE_no h, ih, if_neg (by omega), if_pos (by omega)]
    · have hg : gget (gset E (j : Int) e) (k : Int) = gget E (k : Int) := by rw [gget_set, if_neg (by omega)]
      have hi : (if j < k + 1 then 1 else 0) = (if j < k then 1 else 0) := by
        by_cases h1 : j < k
        · rw [if_pos h1, if_pos (by omega)]
        · rw [if_neg h1, if_neg (by omega)]
      cases hq : gget E (k : Int) with
      | none => rw [cntE_no (by rw [hg]; exact hq), cntE_no hq, ih, hi]
      | some e2 => rw [cntE_go (by rw [hg]; exact hq), cntE_go hq, ih, hi]; omega
theorem add_go {n : Nat} {S : Ts} (W : Wf n S) {k num : Int} {hh : Int × Int} {j : Nat} {g : Int} (hf : freeS S.A = some (j, g)) (W2 : Wf n (addS S k num hh)) : fndE (addS S k num hh) (k, (j : Int), g) = 0 ∧ fndX (addS S k num hh) (k, (j : Int), g) = ⟨(k, (j : Int), g), num, hh⟩ ∧ (addS S k num hh).R = S.R ∧ (liveL (addS S k num hh).E).length = (liveL S.E).length + 1 ∧ (1 ≤ g ∧ g ≤ 4294967295) ∧ ∀ (q : Int) (e : Ety), gget S.E q = some e → q ≠ (j : Int) ∧ gget (addS S k num hh).E q = some e := by
  have hA : addS S k num hh = ⟨S.A.set j (1, g), gset S.E (j : Int) ⟨(k, (j : Int), g), num, hh⟩, S.R⟩ := by unfold addS; simp only [hf]
  have hno := free_no W hf
  have hg : gget (addS S k num hh).E (j : Int) = some ⟨(k, (j : Int), g), num, hh⟩ := by rw [hA]; simp only; rw [gget_set, if_pos rfl]
  have hgd := wf_good W2 hg
  have hfx := fndX_ok (S := addS S k num hh) (d := (k, (j : Int), g)) hgd hg rfl
  have hj := freeS_some hf
  have hjl := (List.getElem?_eq_some_iff.1 hj).1
  rw [W.len] at hjl
  have hb := W.bd
  have hs := W.ok _ (List.mem_of_getElem? hj)
  refine ⟨hfx.1, hfx.2, by rw [hA], ?_, by simp only at hs; omega, fun q e hq => ?_⟩
  · rw [hA]
    unfold liveL
    rw [List.length_map, List.length_map]
    have := someE_set (e := ⟨(k, (j : Int), g), num, hh⟩) hno 256
    rw [if_pos (by omega)] at this
    exact this
  · have hne : q ≠ (j : Int) := by
      rintro rfl
      rw [hno] at hq
      cases hq
    refine ⟨hne, ?_⟩
    rw [hA]
    simp only
    rw [gget_set, if_neg hne]
    exact hq
theorem opn_go {n : Nat} {S : Ts} (W : Wf n S) {o : Ky} (hg : o.2.2 ≤ 4294967295) {L : List UInt8} {h : Int × Int} (h0 : opnE S o L h = 0) : ∃ (j : Nat) (g : Int), opnD S o L h = (o.1, (j : Int), g) ∧ (1 ≤ g ∧ g ≤ 4294967295) ∧ fndE (opnS S o L h) (o.1, (j : Int), g) = 0 ∧ fndX (opnS S o L h) (o.1, (j : Int), g) = ⟨(o.1, (j : Int), g), (S.R.length : Int) + 1, h⟩ ∧ (opnS S o L h).R.length = S.R.length + 1 ∧ (liveL (opnS S o L h).E).length = (liveL S.E).length + 1 := by
  obtain ⟨h1, h2, h3, h4, h5, j, g, h6⟩ := opnE_ok h0
  have W1 := wf_app W (r := ⟨o, 1, 0, 0, 0, L⟩) h5 h1 h3 hg
  have W2 := wf_opn W hg L h
  have hS : opnS S o L h = addS ⟨S.A, S.E, S.R ++ [⟨o, 1, 0, 0, 0, L⟩]⟩ o.1 ((S.R.length : Int) + 1) h := if_pos h0
  have hD : opnD S o L h = (o.1, (j : Int), g) := by unfold opnD addD; rw [if_pos h0]; simp only [h6]
  rw [hS] at W2 ⊢
  obtain ⟨a1, a2, a3, a4, a5, _⟩ := add_go W1 h6 W2
  exact ⟨j, g, hD, a5, a1, a2, by rw [a3]; simp, a4⟩
theorem opn_ref {S : Ts} {o : Ky} {L : List UInt8} {h : Int × Int} (hr : ¬ objH h ∨ hasH S.E h) : opnE S o L h = 2 ∨ opnE S o L h = 6 ∨ opnE S o L h = 16 := by
  unfold opnE
  by_cases h1 : newE o L ≠ 0
  · rw [if_pos h1]
    rcases newE_cases o L with ⟨_, h2⟩ | ⟨_, h2⟩
    · exact .inl h2
    · rcases tagE_or L with h3 | h3
      · omega
      · rw [h2]; exact .inr (.inr h3)
  · rw [if_neg h1]
    by_cases h2 : objH h
    · rw [if_neg (not_not_intro h2), if_pos (.inr (hr.elim (fun q => absurd h2 q) id))]
      exact .inr (.inl rfl)
    · rw [if_pos h2]
      exact .inl rfl
theorem dup_go {n : Nat} {S : Ts} (W : Wf n S) {d : Ky} {h : Int × Int} (h0 : dupE S d h = 0) : ∃ (j : Nat) (g : Int), dupD S d h = (d.1, (j : Int), g) ∧ (1 ≤ g ∧ g ≤ 4294967295) ∧ d.2.1 ≠ (j : Int) ∧ fndE (dupS S d h) (d.1, d.2.1, d.2.2) = 0 ∧ (fndX (dupS S d h) (d.1, d.2.1, d.2.2)).num = (fndX S d).num ∧ fndE (dupS S d h) (d.1, (j : Int), g) = 0 ∧ (fndX (dupS S d h) (d.1, (j : Int), g)).num = (fndX S d).num ∧ (dupS S d h).R.length = S.R.length ∧ (liveL (dupS S d h).E).length = (liveL S.E).length + 1 := by
  obtain ⟨h1, h2, h3, j, g, h6⟩ := dupE_ok h0
  obtain ⟨hg, e, he, hd⟩ := fndE_ok.1 h2
  have hX := (fndX_ok hg he hd).2
  have W2 := wf_dup W d h
  have hS : dupS S d h = addS S d.1 e.num h := by unfold dupS; rw [if_pos h0, hX]
  have hD : dupD S d h = (d.1, (j : Int), g) := by unfold dupD addD; rw [if_pos h0, h6]
  rw [hS] at W2 ⊢
  obtain ⟨a1, a2, a3, a4, a5, a6⟩ := add_go W h6 W2
  obtain ⟨b1, b2⟩ := a6 _ e he
  have hf := fndX_ok (S := addS S d.1 e.num h) (d := d) hg b2 hd
  exact ⟨j, g, hD, a5, b1, hf.1, by rw [hX]; exact congrArg Ety.num hf.2, a1, by rw [a2, hX], by rw [a3], a4⟩
theorem dup_obj {S : Ts} {d : Ky} {h : Int × Int} (h0 : dupE S d h = 0) : objH h ∧ ¬ hasH S.E h := ⟨(dupE_ok h0).1, (dupE_ok h0).2.2.1⟩
section
variable {α : Type} {L : List α} {k : Nat} {x : α} {p : α → Bool} {b : Bool}
theorem any_t (h : true = (L.take k).any p) : true = (L.take (k + 1)).any p := by
  rw [List.take_add_one, List.any_append, ← h]
  rfl
theorem any_go (h : false = (L.take k).any p) (hx : L[k]? = some x) (hp : p x = b) : b = (L.take (k + 1)).any p := by
  rw [List.take_add_one, List.any_append, ← h, hx]
  simp [hp]
theorem any_all (h : b = (L.take k).any p) (hk : L.length ≤ k) : b = L.any p := by
  rw [List.take_of_length_le hk] at h
  exact h
end
theorem has_live {n : Nat} {S : Ts} (W : Wf n S) {h : Int × Int} : (liveL S.E).any (fun y => decide ((fndX S (y.1, y.2.1, y.2.2)).h = h)) = decide (hasH S.E h) := by
  rw [Bool.eq_iff_iff, List.any_eq_true, decide_eq_true_eq]
  constructor
  · rintro ⟨y, h1, h2⟩
    obtain ⟨_, _, _, e, h3, _, h5⟩ := live_ok W h1
    refine ⟨e, wf_all W h3, ?_⟩
    rw [← h5]
    exact of_decide_eq_true h2
  · rintro ⟨e, h1, h2⟩
    have hl : e.d ∈ liveL S.E := mem_live.2 ⟨e, h1, rfl⟩
    obtain ⟨_, _, _, e2, h3, h4, h5⟩ := live_ok W hl
    have he := wf_mem W h1
    rw [h3] at he
    refine ⟨e.d, hl, decide_eq_true ?_⟩
    show (fndX S e.d).h = h
    rw [h5, Option.some.inj he]
    exact h2
end Go.Proofs.Ytjjpmehiolejgaa
