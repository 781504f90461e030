/-
  A map that is being copied, entry by entry. No program in sight.
-/
import Derived.Test.YtjjpmehiolejgaaTabW
import Derived.Test.YtjjpmehiolejgaaMrg
namespace Go.Proofs.Ytjjpmehiolejgaa
/-- All but the entries S of E0 are in Ec. -/
structure Part (E0 S Ec : Tm) : Prop where
  k0 : KN E0
  kc : KN Ec
  ks : KN S
  mem : ∀ q ∈ S, gget E0 q.1 = some q.2
  has : ∀ k : Int, gget Ec k = if k ∈ S.map (·.1) then none else gget E0 k
theorem gget_mem {E : Tm} (h : KN E) {q : Int × Ety} (hq : q ∈ E) : gget E q.1 = some q.2 := by
  induction E with
  | nil => cases hq
  | cons p E ih =>
    obtain ⟨a, v⟩ := p
    have h' : (a :: E.map (·.1)).Nodup := h
    obtain ⟨h1, h2⟩ := List.nodup_cons.1 h'
    simp only [gget]
    rcases List.mem_cons.1 hq with rfl | h3
    · rw [if_pos rfl]
    · have hne : a ≠ q.1 := fun he => h1 (he ▸ List.mem_map_of_mem h3)
      rw [if_neg (Ne.symm hne)]
      exact ih h2 h3
theorem part_start {E0 E : Tm} (h : Meq E0 E) : Part E0 E0 [] := by
  refine ⟨h.1, List.nodup_nil, h.1, fun q hq => gget_mem h.1 hq, fun k => ?_⟩
  split
  · rfl
  · rename_i hk
    rw [gget_none.2 hk]
    rfl
theorem part_go {E0 S Ec : Tm} (h : Part E0 S Ec) {i : Nat} {q : Int × Ety} (hq : S[i]? = some q) : Part E0 (S.eraseIdx i) (gset Ec q.1 q.2) := by
  have hkn : (S.map (·.1)).Nodup := h.ks
  have hi := (List.getElem?_eq_some_iff.1 hq).1
  have hki : (S.map (·.1))[i]? = some q.1 := by rw [List.getElem?_map, hq]; rfl
  have hkil : i < (S.map (·.1)).length := by rw [List.length_map]; exact hi
  have hmk : (S.eraseIdx i).map (·.1) = (S.map (·.1)).eraseIdx i := erase_map _ _ _
  refine ⟨h.k0, kn_set h.kc, ?_, fun p hp => h.mem p (List.eraseIdx_subset hp), fun k => ?_⟩
  · unfold KN
    rw [hmk]
    exact List.Nodup.sublist (List.eraseIdx_sublist _ _) hkn
  · rw [gget_set, hmk]
    have hik : (S.map (·.1))[i] = q.1 := (List.getElem?_eq_some_iff.1 hki).2
    split
    · rename_i hk
      subst hk
      have hno : q.1 ∉ (S.map (·.1)).eraseIdx i := by
        rw [← hik]
        intro h2
        obtain ⟨j, hj, hji, hjk⟩ := List.mem_eraseIdx_iff_getElem.1 h2
        exact hji ((List.getElem_inj hkn).1 hjk)
      rw [if_neg hno]
      exact (h.mem q (List.mem_of_getElem? hq)).symm
    · rename_i hk
      rw [h.has]
      have hiff : k ∈ (S.map (·.1)).eraseIdx i ↔ k ∈ S.map (·.1) := by
        constructor
        · exact fun h2 => List.eraseIdx_subset h2
        · intro h2
          obtain ⟨j, hj, hjk⟩ := List.getElem_of_mem h2
          exact List.mem_eraseIdx_iff_getElem.2 ⟨j, hj, fun he => hk (by subst he; rw [← hjk, hik]), hjk⟩
      by_cases h3 : k ∈ S.map (·.1)
      · rw [if_pos h3, if_pos (hiff.2 h3)]
      · rw [if_neg h3, if_neg fun h4 => h3 (hiff.1 h4)]
theorem part_end {E0 E Ec : Tm} (h : Part E0 [] Ec) (hM : Meq E0 E) : Meq Ec E := ⟨h.kc, hM.2.1, fun k => by
  rw [h.has, if_neg (by simp), hM.2.2]⟩
def dropK (S : Ts) (v : Int) (k : Nat) : Ts := ((descs S.E v).take k).foldl dropS S
theorem dropK_go {S : Ts} {v : Int} {k : Nat} {x : Ky} (hx : (descs S.E v)[k]? = some x) : dropS (dropK S v k) x = dropK S v (k + 1) := by
  unfold dropK
  rw [List.take_add_one, hx, List.foldl_append]
  rfl
theorem dropK_all (S : Ts) (v : Int) {k : Nat} (hk : k = (descs S.E v).length) : dropK S v k = expS S v := by
  subst hk
  unfold dropK expS
  rw [List.take_length]
theorem drops_get {y : Int} : ∀ {D : List Ky} {S : Ts}, (∀ d ∈ D, d.2.1 ≠ y) → gget (D.foldl dropS S).E y = gget S.E y
  | [], _, _ => rfl
  | d :: D, S, h => by
    have h1 := drops_get (D := D) (S := dropS S d) (y := y) fun d2 hd2 => h d2 (List.mem_cons_of_mem _ hd2)
    rw [List.foldl_cons, h1]
    unfold dropS
    simp only
    rw [gget_del (Ne.symm (h d List.mem_cons_self))]
theorem drops_R : ∀ {D : List Ky} {S : Ts}, (D.foldl dropS S).R = S.R
  | [], _ => rfl
  | d :: D, S => by rw [List.foldl_cons, drops_R]; rfl
theorem descs_at {n : Nat} {S : Ts} (W : Wf n S) {v : Int} {x : Ky} (hx : x ∈ descs S.E v) : ∃ e, gget S.E x.2.1 = some e ∧ e.d = x ∧ e.num = v := by
  obtain ⟨e, h1, h2, h3⟩ := mem_descs.1 hx
  exact ⟨e, by rw [← h3]; exact wf_mem W h1, h3, h2⟩
theorem dropK_at {n : Nat} {S : Ts} (W : Wf n S) {v : Int} {k : Nat} {x : Ky} (hx : (descs S.E v)[k]? = some x) : ∃ e, gget (dropK S v k).E x.2.1 = some e ∧ e.d = x := by
  obtain ⟨e, h1, h2, _⟩ := descs_at W (List.mem_of_getElem? hx)
  refine ⟨e, ?_, h2⟩
  unfold dropK
  rw [drops_get, h1]
  intro d hd
  obtain ⟨j, hj⟩ := List.getElem?_of_mem hd
  have hjk : j < k := by
    have := (List.getElem?_eq_some_iff.1 hj).1
    rw [List.length_take] at this
    omega
  rw [List.getElem?_take_of_lt hjk] at hj
  have hp := List.pairwise_iff_getElem.1 (descs_lt W v) j k (by rw [List.length_map]; exact (List.getElem?_eq_some_iff.1 hj).1) (by rw [List.length_map]; exact (List.getElem?_eq_some_iff.1 hx).1) hjk
  rw [List.getElem_map, List.getElem_map, (List.getElem?_eq_some_iff.1 hj).2, (List.getElem?_eq_some_iff.1 hx).2] at hp
  omega
theorem gen_ok {n : Nat} {S : Ts} (W : Wf n S) {e : Ety} {k : Int} (h : gget S.E k = some e) : 0 ≤ e.d.2.2 ∧ e.d.2.2 ≤ 4294967295 := by
  obtain ⟨q, _, _, h2⟩ := wf_slot W h
  have := W.ok _ (List.mem_of_getElem? h2)
  simp only at this
  omega
theorem desc_ok {n : Nat} {S : Ts} (W : Wf n S) {v : Int} {x : Ky} (hx : x ∈ descs S.E v) : 0 ≤ x.2.2 ∧ x.2.2 ≤ 4294967295 := by
  obtain ⟨e, h1, h2, _⟩ := descs_at W hx
  have := gen_ok W h1
  rw [h2] at this
  exact this
theorem descs_len (E : Tm) (v : Int) : (descs E v).length ≤ 256 := by
  have h1 := (descs_sub E v).length_le
  rw [List.length_map] at h1
  have h2 := cntE_le E 256
  unfold allE at h1
  omega
theorem set_bad {S : Ts} {v : Int} {r : Rs} {e : Int} (h : setE S v r = e) (he : e ≠ 0) : setS S v r = S := by
  unfold setS
  rw [if_neg (by omega)]
theorem erase_len {α : Type} {S : List α} {i : Nat} {q : α} (h : S[i]? = some q) : (S.eraseIdx i).length + 1 = S.length := by
  have := (List.getElem?_eq_some_iff.1 h).1
  rw [List.length_eraseIdx, if_pos this]
  omega
end Go.Proofs.Ytjjpmehiolejgaa
