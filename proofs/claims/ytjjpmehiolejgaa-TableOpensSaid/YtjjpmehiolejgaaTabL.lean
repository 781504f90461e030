/-
  What the laws of tables of resources do with them, as plain functions. No program in sight.
-/
import Derived.Test.YtjjpmehiolejgaaTabC
namespace Go.Proofs.Ytjjpmehiolejgaa
abbrev Mv := Int × Int
def eMv (m : Mv) : List Value := [.int .u8 m.1, .int .u8 m.2]
theorem eMv_ok : Enc 2 eMv := ⟨fun _ => rfl, fun x v hv => by simp [eMv] at hv; rcases hv with rfl | rfl <;> rfl⟩
def MvOk (m : Mv) : Prop := (0 ≤ m.1 ∧ m.1 ≤ 255) ∧ (0 ≤ m.2 ∧ m.2 ≤ 255)
def liveL (E : Tm) : List Ky := (allE E).map (·.d)
def liveT (E : Tm) (k : Nat) : List Ky := (someE E k).map (·.d)
theorem liveT_go {E : Tm} {k : Nat} {e : Ety} (h : gget E (k : Int) = some e) : liveT E k ++ [e.d] = liveT E (k + 1) := by
  unfold liveT
  rw [someE_go h, List.map_append]
  rfl
theorem liveT_no {E : Tm} {k : Nat} (h : gget E (k : Int) = none) : liveT E k = liveT E (k + 1) := by
  unfold liveT
  rw [someE_no h]
theorem mem_live {E : Tm} {d : Ky} : d ∈ liveL E ↔ ∃ e ∈ allE E, e.d = d := by
  unfold liveL
  rw [List.mem_map]
theorem live_at {n : Nat} {S : Ts} (W : Wf n S) {d : Ky} (h : d ∈ liveL S.E) : ∃ e, gget S.E d.2.1 = some e ∧ e.d = d := by
  obtain ⟨e, h1, h2⟩ := mem_live.1 h
  exact ⟨e, by rw [← h2]; exact wf_mem W h1, h2⟩
theorem live_ok {n : Nat} {S : Ts} (W : Wf n S) {d : Ky} (h : d ∈ liveL S.E) : goodD d ∧ fndE S d = 0 ∧ d.2.2 ≤ 4294967295 ∧ ∃ e, gget S.E d.2.1 = some e ∧ e.d = d ∧ fndX S d = e := by
  obtain ⟨e, h1, h2⟩ := live_at W h
  have hg := wf_good W h1
  have hb := gen_ok W h1
  rw [h2] at hg hb
  exact ⟨hg, (fndX_ok hg h1 h2).1, hb.2, e, h1, h2, (fndX_ok hg h1 h2).2⟩
/-- A resource is made one that has to be released. -/
def lvR (r : Rs) : Rs := ⟨r.out, 2, 1, 0, 0, r.tag⟩
def lvS (S : Ts) (v : Int) : Ts := ⟨S.A, S.E, S.R.set (v - 1).toNat (lvR (getR S v))⟩
theorem live_res {n : Nat} {S : Ts} (W : Wf n S) {v : Int} (hv : 1 ≤ v ∧ v ≤ (S.R.length : Int)) (hs : (getR S v).st = 1) : (1 ≤ (getR S v).out.1 ∧ (getR S v).out.1 ≤ 3 ∧ 0 ≤ (getR S v).out.2.1 ∧ (getR S v).out.2.1 ≤ 63 ∧ 1 ≤ (getR S v).out.2.2) ∧ (getR S v).why = 0 ∧ (getR S v).tr = 0 ∧ (getR S v).nx = 0 ∧ tagE (getR S v).tag = 0 ∧ (getR S v).tag.length ≤ 96 := by
  have hr := W.res _ (List.mem_of_getElem? (getR_at hv))
  unfold resR resE at hr
  split at hr
  · rename_i hp
    obtain ⟨h1, h2⟩ := hp
    refine ⟨h1, by omega, by omega, by omega, hr, ?_⟩
    unfold tagE at hr
    split at hr
    · omega
    · omega
  · omega
theorem lv_set {n : Nat} {S : Ts} (W : Wf n S) {v : Int} (hv : 1 ≤ v ∧ v ≤ (S.R.length : Int)) (hs : (getR S v).st = 1) (hd : (descs S.E v).length = 0) : setE S v (lvR (getR S v)) = 0 ∧ setS S v (lvR (getR S v)) = lvS S v := by
  have hl := live_res W hv hs
  have h0 : setE S v (lvR (getR S v)) = 0 := by
    have hn0 : nE S v = 0 := if_pos hv
    unfold setE
    have hres : resR (lvR (getR S v)) = 0 := by
      have hp : posP (getR S v).out.1 (getR S v).out.2.1 (getR S v).out.2.2 2 1 0 0 := ⟨hl.1, .inr (.inl (by decide))⟩
      exact (if_pos hp).trans hl.2.2.2.2.1
    rw [if_neg (show ¬ nE S v ≠ 0 by omega), if_neg (show ¬ resR (lvR (getR S v)) ≠ 0 by omega), if_neg (by unfold lvR; rintro (h | h) <;> exact h rfl), if_neg (by omega)]
  refine ⟨h0, ?_⟩
  unfold setS lvS
  rw [if_pos h0]
theorem wf_lv {n : Nat} {S : Ts} (W : Wf n S) {v : Int} (hv : 1 ≤ v ∧ v ≤ (S.R.length : Int)) (hs : (getR S v).st = 1) (hd : (descs S.E v).length = 0) : Wf n (lvS S v) := by
  rw [← (lv_set W hv hs hd).2]
  exact wf_set W _ _
/-- The resource of an entry is there, and lives. -/
theorem ent_live {n : Nat} {S : Ts} (W : Wf n S) {k : Int} {e : Ety} (h : gget S.E k = some e) : (1 ≤ e.num ∧ e.num ≤ (S.R.length : Int)) ∧ (getR S e.num).st = 1 ∧ (getR S e.num).out.1 = e.d.1 := by
  obtain ⟨_, _, ⟨q, r, h1, h2, h3, h4⟩, _⟩ := W.ent k e h
  have hl := (List.getElem?_eq_some_iff.1 h1).1
  have hv : 1 ≤ e.num ∧ e.num ≤ (S.R.length : Int) := by omega
  have hg := getR_at hv
  rw [show (e.num - 1).toNat = q from by omega, h1] at hg
  rw [← Option.some.inj hg]
  exact ⟨hv, h4, h3⟩
theorem clsL_ok {S : Ts} {d : Ky} (h : clsL S d = true) : fndE S d = 0 ∧ (descs (clsS S d).E (fndX S d).num).length = 0 := by
  unfold clsL at h
  have := of_decide_eq_true h
  refine ⟨this.1, ?_⟩
  unfold clsS
  rw [if_pos this.1]
  exact this.2
theorem cls_ok' {S : Ts} {d : Ky} (h : fndE S d = 0) : clsS S d = dropS S d := by
  unfold clsS
  rw [if_pos h]
theorem cls_R (S : Ts) (d : Ky) : (clsS S d).R = S.R := by unfold clsS dropS; split <;> rfl
theorem cls_live {n : Nat} {S : Ts} (W : Wf n S) {d : Ky} (h : clsL S d = true) : (1 ≤ (fndX S d).num ∧ (fndX S d).num ≤ ((clsS S d).R.length : Int)) ∧ (getR (clsS S d) (fndX S d).num).st = 1 ∧ (descs (clsS S d).E (fndX S d).num).length = 0 := by
  obtain ⟨h1, h2⟩ := clsL_ok h
  obtain ⟨hg, e, h3, h4⟩ := fndE_ok.1 h1
  have h5 := (fndX_ok hg h3 h4).2
  have h6 := ent_live W h3
  have hR := cls_R S d
  refine ⟨?_, ?_, h2⟩
  · rw [h5, hR]; exact h6.1
  · rw [h5]
    unfold getR
    rw [hR]
    exact h6.2.1
def lclS (S : Ts) (d : Ky) : Ts := if clsL S d = true then lvS (clsS S d) (fndX S d).num else clsS S d
theorem wf_lcl {n : Nat} {S : Ts} (W : Wf n S) (d : Ky) : Wf n (lclS S d) := by
  unfold lclS
  split
  · rename_i h
    obtain ⟨h1, h2, h3⟩ := cls_live W h
    exact wf_lv (wf_cls W d) h1 h2 h3
  · exact wf_cls W d
theorem exp_R (S : Ts) (v : Int) : (expS S v).R = S.R := drops_R
theorem drops_gone {n : Nat} : ∀ {D : List Ky} {S : Ts}, Wf n S → (∀ d ∈ D, ∃ e, gget S.E d.2.1 = some e ∧ e.d = d) → (D.map (·.2.1)).Pairwise (· < ·) → ∀ d ∈ D, gget (D.foldl dropS S).E d.2.1 = none
  | [], _, _, _, _ => fun d hd => by cases hd
  | d0 :: D, S, W, h, hp => fun d hd => by
    obtain ⟨e, h1, h2⟩ := h d0 List.mem_cons_self
    rw [List.map_cons, List.pairwise_cons] at hp
    have W2 := wf_drop W h1 h2
    have hne : ∀ d2 ∈ D, d2.2.1 ≠ d0.2.1 := fun d2 hd2 => by
      have := hp.1 _ (List.mem_map_of_mem (f := (·.2.1)) hd2)
      omega
    rcases List.mem_cons.1 hd with rfl | h3
    · rw [List.foldl_cons, drops_get hne]
      exact gget_del_self W.nd
    · exact drops_gone W2 (fun d2 hd2 => by
        obtain ⟨e2, h4, h5⟩ := h d2 (List.mem_cons_of_mem _ hd2)
        exact ⟨e2, by unfold dropS; simp only; rw [gget_del (hne d2 hd2)]; exact h4, h5⟩) hp.2 d h3
theorem exp_gone {n : Nat} {S : Ts} (W : Wf n S) {v : Int} {d : Ky} (hd : d ∈ descs S.E v) : gget (expS S v).E d.2.1 = none := drops_gone W (fun d2 hd2 => by
  obtain ⟨e, h1, h2, _⟩ := descs_at W hd2
  exact ⟨e, h1, h2⟩) (descs_lt W v) d hd
/-- The entries behind Expire: those of other resources. -/
theorem exp_get {n : Nat} {S : Ts} (W : Wf n S) {v k : Int} {e : Ety} : gget (expS S v).E k = some e ↔ gget S.E k = some e ∧ e.num ≠ v := by
  by_cases hk : ∃ d ∈ descs S.E v, d.2.1 = k
  · obtain ⟨d, hd, rfl⟩ := hk
    rw [exp_gone W hd]
    obtain ⟨e2, h1, h2, h3⟩ := descs_at W hd
    rw [h1]
    constructor
    · intro h; cases h
    · rintro ⟨h, h4⟩
      obtain rfl := Option.some.inj h
      exact absurd h3 h4
  · have hk' : ∀ d ∈ descs S.E v, d.2.1 ≠ k := fun d hd h => hk ⟨d, hd, h⟩
    unfold expS
    rw [drops_get hk']
    constructor
    · intro h
      refine ⟨h, fun h2 => ?_⟩
      exact hk' e.d (mem_descs.2 ⟨e, wf_all W h, h2, rfl⟩) (W.ent k e h).2.1
    · exact fun h => h.1
theorem exp_descs {n : Nat} {S : Ts} (W : Wf n S) (v : Int) : (descs (expS S v).E v).length = 0 := by
  cases h : descs (expS S v).E v with
  | nil => rfl
  | cons d D =>
    have hm : d ∈ descs (expS S v).E v := by rw [h]; exact List.mem_cons_self
    obtain ⟨e, h1, h2, h3⟩ := descs_at (wf_exp W v) hm
    exact absurd h3 ((exp_get W).1 h1).2
/-- A turn, and turns. -/
abbrev Tp := Ts × List Ky
def tH (i : Nat) : Int × Int := ((i : Int) % 256, (i : Int) / 256 + 1)
def tO (i : Nat) (m : Mv) : Ky := (m.2 % 3 + 1, (i : Int) % 64, (i : Int) / 64 + 1)
def tD (S : Ts) (m : Mv) : Ky := (liveL S.E).getD (m.2 % ((liveL S.E).length : Int)).toNat (0, 0, 0)
def turnS (p : Tp) (i : Nat) (m : Mv) : Tp :=
  if m.1 % 8 < 3 then (opnS p.1 (tO i m) [116] (tH i), if opnE p.1 (tO i m) [116] (tH i) = 0 then p.2 ++ [opnD p.1 (tO i m) [116] (tH i)] else p.2)
  else if (liveL p.1.E).length = 0 then p
  else if m.1 % 8 < 5 then (dupS p.1 (tD p.1 m) (tH i), if dupE p.1 (tD p.1 m) (tH i) = 0 then p.2 ++ [dupD p.1 (tD p.1 m) (tH i)] else p.2)
  else if m.1 % 8 < 7 then (lclS p.1 (tD p.1 m), p.2)
  else (lvS (expS p.1 (fndX p.1 (tD p.1 m)).num) (fndX p.1 (tD p.1 m)).num, p.2)
def madeK (n : Nat) (g : Int) (T : List Mv) : Nat → Tp
  | 0 => (⟨List.replicate n (0, g), [], []⟩, [])
  | k + 1 => turnS (madeK n g T k) k (T.getD k (0, 0))
theorem madeK_go {n : Nat} {g : Int} {T : List Mv} {k : Nat} {m : Mv} (h : T[k]? = some m) {p : Tp} (hp : turnS (madeK n g T k) k m = p) : madeK n g T (k + 1) = p := by
  show turnS (madeK n g T k) k (T.getD k (0, 0)) = p
  rw [getD_some h, hp]
theorem tD_mem {S : Ts} {m : Mv} (h : (liveL S.E).length ≠ 0) (hm : 0 ≤ m.2) : tD S m ∈ liveL S.E := by
  unfold tD
  apply getD_mem
  have h1 := Int.emod_lt_of_pos m.2 (b := ((liveL S.E).length : Int)) (by omega)
  have h2 := Int.emod_nonneg m.2 (b := ((liveL S.E).length : Int)) (by omega)
  omega
theorem exp_live {n : Nat} {S : Ts} (W : Wf n S) {d : Ky} (hd : d ∈ liveL S.E) : (1 ≤ (fndX S d).num ∧ (fndX S d).num ≤ ((expS S (fndX S d).num).R.length : Int)) ∧ (getR (expS S (fndX S d).num) (fndX S d).num).st = 1 ∧ (descs (expS S (fndX S d).num).E (fndX S d).num).length = 0 := by
  obtain ⟨_, _, _, e, h3, h4, h5⟩ := live_ok W hd
  have h6 := ent_live W h3
  rw [h5]
  refine ⟨?_, ?_, exp_descs W _⟩
  · rw [exp_R]; exact h6.1
  · unfold getR; rw [exp_R]; exact h6.2.1
section
variable {p : Tp} {i : Nat} {m : Mv} {d : Ky}
theorem tD_at {S : Ts} {q : Nat} (hq : (q : Int) = m.2 % ((liveL S.E).length : Int)) (hd : (liveL S.E)[q]? = some d) : tD S m = d := by
  unfold tD
  rw [show (m.2 % ((liveL S.E).length : Int)).toNat = q from by omega, getD_some hd]
theorem turn_open1 (h : m.1 % 8 < 3) (he : opnE p.1 (tO i m) [116] (tH i) = 0) : turnS p i m = (opnS p.1 (tO i m) [116] (tH i), p.2 ++ [opnD p.1 (tO i m) [116] (tH i)]) := by
  unfold turnS
  rw [if_pos h, if_pos he]
theorem turn_open0 (h : m.1 % 8 < 3) (he : opnE p.1 (tO i m) [116] (tH i) ≠ 0) : turnS p i m = (opnS p.1 (tO i m) [116] (tH i), p.2) := by
  unfold turnS
  rw [if_pos h, if_neg he]
theorem turn_none (h : ¬ m.1 % 8 < 3) (hl : (liveL p.1.E).length = 0) : turnS p i m = p := by
  unfold turnS
  rw [if_neg h, if_pos hl]
theorem turn_dup1 (h : ¬ m.1 % 8 < 3) (hl : ¬ (liveL p.1.E).length = 0) (h5 : m.1 % 8 < 5) (hd : tD p.1 m = d) (he : dupE p.1 d (tH i) = 0) : turnS p i m = (dupS p.1 d (tH i), p.2 ++ [dupD p.1 d (tH i)]) := by
  unfold turnS
  rw [if_neg h, if_neg hl, if_pos h5, hd, if_pos he]
theorem turn_dup0 (h : ¬ m.1 % 8 < 3) (hl : ¬ (liveL p.1.E).length = 0) (h5 : m.1 % 8 < 5) (hd : tD p.1 m = d) (he : dupE p.1 d (tH i) ≠ 0) : turnS p i m = (dupS p.1 d (tH i), p.2) := by
  unfold turnS
  rw [if_neg h, if_neg hl, if_pos h5, hd, if_neg he]
theorem turn_cls (h : ¬ m.1 % 8 < 3) (hl : ¬ (liveL p.1.E).length = 0) (h5 : ¬ m.1 % 8 < 5) (h7 : m.1 % 8 < 7) (hd : tD p.1 m = d) : turnS p i m = (lclS p.1 d, p.2) := by
  unfold turnS
  rw [if_neg h, if_neg hl, if_neg h5, if_pos h7, hd]
theorem turn_exp (h : ¬ m.1 % 8 < 3) (hl : ¬ (liveL p.1.E).length = 0) (h5 : ¬ m.1 % 8 < 5) (h7 : ¬ m.1 % 8 < 7) (hd : tD p.1 m = d) : turnS p i m = (lvS (expS p.1 (fndX p.1 d).num) (fndX p.1 d).num, p.2) := by
  unfold turnS
  rw [if_neg h, if_neg hl, if_neg h5, if_neg h7, hd]
end
theorem madeK_all (n : Nat) (g : Int) (T : List Mv) (k : Nat) : (madeK n g T k).2.length ≤ k := by
  induction k with
  | zero => exact Nat.le_refl _
  | succ k ih =>
    show (turnS (madeK n g T k) k (T.getD k (0, 0))).2.length ≤ k + 1
    unfold turnS
    split
    · split
      · simp only [List.length_append, List.length_cons, List.length_nil]; omega
      · simp only; omega
    · split
      · omega
      · split
        · split
          · simp only [List.length_append, List.length_cons, List.length_nil]; omega
          · simp only; omega
        · split
          · simp only; omega
          · simp only; omega
theorem live_len (E : Tm) : (liveL E).length ≤ 256 := by
  unfold liveL
  rw [List.length_map]
  exact cntE_le E 256
end Go.Proofs.Ytjjpmehiolejgaa
