/-
  Tables of files, as plain functions of a list of (state, generation, number). No program in sight.
-/
import Derived.Test.YtggfnbpohmhphaaGreatDoorFdsP
import Derived.Test.YtggfnbpohmhphaaGreatDoorCln
import Derived.Test.YtggfnbpohmhphaaGreatDoorBundle20
namespace Go.Proofs.YtggfnbpohmhphaaGreatDoor
abbrev Fl := Int × Int × Int
abbrev Xs := List Fl
def sl2 (x : Fl) : Sl2 := (x.1, x.2.1)
def As (X : Xs) : List Sl2 := X.map sl2
theorem as_len (X : Xs) : (As X).length = X.length := List.length_map _
theorem as_get {X : Xs} {i : Nat} {x : Fl} (h : X[i]? = some x) : (As X)[i]? = some (x.1, x.2.1) := by
  unfold As
  rw [List.getElem?_map, h]
  rfl
theorem as_set (X : Xs) (i : Nat) (x : Fl) : As (X.set i x) = (As X).set i (x.1, x.2.1) := List.map_set
def KGood (o : Ky) : Prop := 1 ≤ o.1 ∧ o.1 ≤ 3 ∧ 0 ≤ o.2.1 ∧ o.2.1 ≤ 63 ∧ 1 ≤ o.2.2
instance (o : Ky) : Decidable (KGood o) := by unfold KGood; infer_instance
/-- The error of a resource. -/
def errA (A : List Sl2) (o : Ky) : Int := if ¬ KGood o ∨ o.1 ≠ 1 then 2 else if (A.length : Int) ≤ o.2.1 then 3 else if A[o.2.1.toNat]? = some (1, o.2.2) then 0 else 7
theorem chk_arg (A : List Sl2) {x y z : Int} (h : ¬ (1 ≤ x ∧ x ≤ 3 ∧ 0 ≤ y ∧ y ≤ 63 ∧ 1 ≤ z) ∨ x ≠ 1) : errA A (x, y, z) = 2 := if_pos h
theorem chk_range (A : List Sl2) {n : Nat} (hn : A.length = n) {x y z : Int} (hx : x = 1) (h1 : 0 ≤ y) (h2 : y ≤ 63) (h3 : 1 ≤ z) (hr : (n : Int) ≤ y) : errA A (x, y, z) = 3 := by
  unfold errA
  rw [if_neg (by rintro (h | h); exact h ⟨by show 1 ≤ x; omega, by show x ≤ 3; omega, h1, h2, h3⟩; exact h hx), if_pos (by rw [hn]; exact hr)]
theorem chk_in (A : List Sl2) {q : Nat} {s : Sl2} {x y z : Int} (hx : x = 1) (h2 : y ≤ 63) (h3 : 1 ≤ z) (hq : y = (q : Int)) (hs : A[q]? = some s) : errA A (x, y, z) = if s.1 = 1 ∧ s.2 = z then 0 else 7 := by
  have hl := (List.getElem?_eq_some_iff.1 hs).1
  obtain ⟨s1, s2⟩ := s
  unfold errA
  rw [if_neg (by rintro (h | h); exact h ⟨by show 1 ≤ x; omega, by show x ≤ 3; omega, by show 0 ≤ y; omega, h2, h3⟩; exact h hx), if_neg (by show ¬ (_ ≤ y); omega)]
  show (if A[y.toNat]? = some (1, z) then (0 : Int) else 7) = _
  rw [hq, Int.toNat_natCast, hs]
  simp only [Option.some.injEq, Prod.mk.injEq]
theorem chk_ok (A : List Sl2) {q : Nat} {s : Sl2} {x y z : Int} (hx : x = 1) (h2 : y ≤ 63) (h3 : 1 ≤ z) (hq : y = (q : Int)) (hs : A[q]? = some s) (h : s.1 = 1 ∧ s.2 = z) : errA A (x, y, z) = 0 := by rw [chk_in A hx h2 h3 hq hs, if_pos h]
theorem chk_stale (A : List Sl2) {q : Nat} {s : Sl2} {x y z : Int} (hx : x = 1) (h2 : y ≤ 63) (h3 : 1 ≤ z) (hq : y = (q : Int)) (hs : A[q]? = some s) (h : ¬ (s.1 = 1 ∧ s.2 = z)) : errA A (x, y, z) = 7 := by rw [chk_in A hx h2 h3 hq hs, if_neg h]
theorem chk_zero {A : List Sl2} {o : Ky} (h : errA A o = 0) : KGood o ∧ o.1 = 1 ∧ o.2.1.toNat < A.length ∧ A[o.2.1.toNat]? = some (1, o.2.2) := by
  unfold errA at h
  split at h
  · exact absurd h (by decide)
  · rename_i h1
    split at h
    · exact absurd h (by decide)
    · split at h
      · rename_i h3
        simp only [not_or, Decidable.not_not] at h1
        exact ⟨h1.1, h1.2, (List.getElem?_eq_some_iff.1 h3).1, h3⟩
      · exact absurd h (by decide)
theorem chk_bd (A : List Sl2) (o : Ky) : 0 ≤ errA A o ∧ errA A o ≤ 7 := by
  unfold errA
  split
  · decide
  · split
    · decide
    · split <;> decide
/-- Slots and the map, when a file is closed. -/
def clsA (A : List Sl2) (o : Ky) : List Sl2 := if errA A o = 0 then giveA A o.2.1.toNat o.2.2 else A
def clsM (A : List Sl2) (E : Mm) (o : Ky) : Mm := if errA A o = 0 then mdel E o else E
def shut (z : Int) : Fl := if z < 4294967295 then (0, z + 1, 0) else (2, z, 0)
def clsX (X : Xs) (o : Ky) : Xs := if errA (As X) o = 0 then X.set o.2.1.toNat (shut o.2.2) else X
/-- The files that are open. -/
def allX (X : Xs) : List Ky := (inS 1 (As X) 0).map fun r => (1, (r.1 : Int), r.2)
/-- A file is opened. -/
def opnO (X : Xs) (v : Int) : Ky := if v < 0 ∨ 65535 < v then (0, 0, 0) else if 0 < (inS 0 (As X) 0).length then (1, (((inS 0 (As X) 0).getD 0 (0, 0)).1 : Int), ((inS 0 (As X) 0).getD 0 (0, 0)).2) else (0, 0, 0)
def opnE (X : Xs) (v : Int) : Int := if v < 0 ∨ 65535 < v then 2 else if 0 < (inS 0 (As X) 0).length then 0 else 4
def opnX (X : Xs) (v : Int) : Xs := if v < 0 ∨ 65535 < v then X else if 0 < (inS 0 (As X) 0).length then X.set ((inS 0 (As X) 0).getD 0 (0, 0)).1 (1, ((inS 0 (As X) 0).getD 0 (0, 0)).2, v) else X
theorem opn_arg {X : Xs} {v : Int} (h : v < 0 ∨ 65535 < v) : opnO X v = (0, 0, 0) ∧ opnE X v = 2 ∧ opnX X v = X := by
  unfold opnO opnE opnX
  rw [if_pos h, if_pos h, if_pos h]
  exact ⟨rfl, rfl, rfl⟩
theorem opn_full {X : Xs} {v : Int} (h : 0 ≤ v ∧ v ≤ 65535) (hf : (inS 0 (As X) 0).length = 0) : opnO X v = (0, 0, 0) ∧ opnE X v = 4 ∧ opnX X v = X := by
  unfold opnO opnE opnX
  rw [if_neg (by omega), if_neg (by omega), if_neg (by omega), if_neg (by omega), if_neg (by omega), if_neg (by omega)]
  exact ⟨rfl, rfl, rfl⟩
theorem opn_ok {X : Xs} {v : Int} (h : 0 ≤ v ∧ v ≤ 65535) {i : Nat} {g : Int} (hi : (inS 0 (As X) 0)[0]? = some (i, g)) : opnO X v = (1, (i : Int), g) ∧ opnE X v = 0 ∧ opnX X v = X.set i (1, g, v) := by
  have hl := (List.getElem?_eq_some_iff.1 hi).1
  unfold opnO opnE opnX
  have h1 : ¬ (v < 0 ∨ 65535 < v) := by omega
  rw [if_neg h1, if_neg h1, if_neg h1, if_pos hl, if_pos hl, if_pos hl, getD_some hi]
  exact ⟨rfl, rfl, rfl⟩
/-- The first slot that is free. -/
theorem opn_first {X : Xs} {i : Nat} {x : Fl} (hx : X[i]? = some x) (h0 : x.1 = 0) (hc : cnt 0 (As X) i = 0) : (inS 0 (As X) 0)[0]? = some (i, x.2.1) := by
  have := inS_at (as_get hx) h0
  rw [hc] at this
  exact this
theorem giveA_as (X : Xs) (q : Nat) (z : Int) : giveA (As X) q z = As (X.set q (shut z)) := by
  rw [as_set]
  unfold giveA shut
  split <;> rfl
theorem clsA_as (X : Xs) (o : Ky) : clsA (As X) o = As (clsX X o) := by
  unfold clsA clsX
  split
  · exact giveA_as X _ _
  · rfl
theorem mget_set (E : Mm) (k a : Ky) (v : Int) : mget (mset E k v) a = if a = k then some v else mget E a := by
  induction E with
  | nil => simp only [mset, mget]
  | cons q E ih =>
    obtain ⟨b, u⟩ := q
    simp only [mset]
    split
    · rename_i h
      subst h
      simp only [mget]
      split <;> rfl
    · rename_i h
      simp only [mget, ih]
      split
      · rename_i h1
        rw [if_neg (by rintro rfl; exact h h1)]
      · rfl
theorem mget_del {E : Mm} {k a : Ky} (h : a ≠ k) : mget (mdel E k) a = mget E a := by
  induction E with
  | nil => rfl
  | cons q E ih =>
    obtain ⟨b, u⟩ := q
    simp only [mdel]
    split
    · rename_i h1
      subst h1
      simp only [mget]
      rw [if_neg h]
    · simp only [mget, ih]
/-- The map holds the numbers of the files that are open. -/
def Nums (X : Xs) (E : Mm) : Prop := ∀ (i : Nat) (g v : Int), X[i]? = some (1, g, v) → mget E (1, (i : Int), g) = some v
theorem nums_nil {n : Nat} {g : Int} : Nums (List.replicate n (0, g, 0)) [] := fun i a v h => by
  have := List.eq_of_mem_replicate (List.mem_of_getElem? h)
  simp only [Prod.mk.injEq] at this
  exact absurd this.1 (by decide)
theorem set_cases {α : Type} {X : List α} {q i : Nat} {y x : α} (h : (X.set q y)[i]? = some x) : (i = q ∧ x = y) ∨ (i ≠ q ∧ X[i]? = some x) := by
  by_cases hi : i = q
  · subst hi
    left
    have hl : i < X.length := by
      have := (List.getElem?_eq_some_iff.1 h).1
      simpa using this
    rw [List.getElem?_set_self hl] at h
    exact ⟨rfl, (Option.some.inj h).symm⟩
  · right
    rw [List.getElem?_set_ne (fun h => hi h.symm)] at h
    exact ⟨hi, h⟩
theorem nums_open {X : Xs} {E : Mm} {q : Nat} {g v : Int} (h : Nums X E) : Nums (X.set q (1, g, v)) (mset E (1, (q : Int), g) v) := fun i a u hi => by
  rw [mget_set]
  rcases set_cases hi with ⟨rfl, h2⟩ | ⟨h1, h2⟩
  · simp only [Prod.mk.injEq] at h2
    obtain ⟨_, rfl, rfl⟩ := h2
    rw [if_pos rfl]
  · rw [if_neg (by simp only [Prod.mk.injEq, not_and]; intro _ h3; omega)]
    exact h i a u h2
theorem nums_close {X : Xs} {E : Mm} {o : Ky} (h : Nums X E) : Nums (clsX X o) (clsM (As X) E o) := by
  unfold clsX clsM
  split
  · rename_i hc
    obtain ⟨h1, h2, h3, h4⟩ := chk_zero hc
    intro i a u hi
    rcases set_cases hi with ⟨rfl, h5⟩ | ⟨h5, h6⟩
    · unfold shut at h5
      split at h5 <;> (simp only [Prod.mk.injEq] at h5; exact absurd h5.1 (by decide))
    · rw [mget_del]
      · exact h i a u h6
      · rintro rfl
        exact h5 rfl
  · exact h
/-- What the document has of an id. -/
def eId (x : Fl) : List Value := [.bool (decide (x.1 = 1)), .bool (decide (x.1 = 2)), .int .u32 x.2.1, .int .i64 x.2.2]
theorem eId_ok : Enc 4 eId := ⟨fun _ => rfl, fun x v hv => by simp [eId] at hv; rcases hv with rfl | rfl | rfl | rfl <;> rfl⟩
end Go.Proofs.YtggfnbpohmhphaaGreatDoor

/- Walks, printed by my generator f7.py. -/
namespace Go.Proofs.YtggfnbpohmhphaaGreatDoor
/-- A table of files. -/
def Fd (b n : Nat) (X : Xs) : Assn := fun h => ∃ x : Nat × Nat × Mm, (Nums X x.2.2 ∧ n ≤ 64) ∧ star [Cl b [.pointer (some ⟨x.1, 0, none⟩), .map (some x.2.1)] 137, Tb x.1 n (As X), Mp x.2.1 x.2.2] h
/-- The document's table. -/
def Dc (b n : Nat) (X : Xs) : Assn := fun h => ∃ x : Option Addr × Nat, (X.length = n ∧ 1 ≤ n ∧ n ≤ 64 ∧ SlOk (As X)) ∧ star [Cl b [.slice x.1 n x.2] 163, Sl 165 4 x.1 n x.2 (fl eId X)] h
section
variable {g w : World} {L : List Assn} {b n : Nat} {X : Xs}
theorem fd_open (h : sat g w (Fd b n X :: L)) : ∃ s m E, (Nums X E ∧ n ≤ 64) ∧ sat g w (Cl b [.pointer (some ⟨s, 0, none⟩), .map (some m)] 137 :: Tb s n (As X) :: Mp m E :: L) := by
  obtain ⟨⟨s, m, E⟩, h1, h2⟩ := sat_open (X := Nat × Nat × Mm) (p := fun x => Nums X x.2.2 ∧ n ≤ 64) (B := fun x => star [Cl b [.pointer (some ⟨x.1, 0, none⟩), .map (some x.2.1)] 137, Tb x.1 n (As X), Mp x.2.1 x.2.2]) h (fun k hk => hk)
  exact ⟨s, m, E, h1, sat_unstar h2⟩
theorem fd_close {s m : Nat} {E E' : Mm} {A : List Sl2} (h1 : Nums X E') (h2 : n ≤ 64) (hA : A = As X) (hE : E = E') (h : sat g w (Cl b [.pointer (some ⟨s, 0, none⟩), .map (some m)] 137 :: Tb s n A :: Mp m E :: L)) : sat g w (Fd b n X :: L) := by
  subst hA
  subst hE
  exact sat_imp (sat_star (K := [Cl b [.pointer (some ⟨s, 0, none⟩), .map (some m)] 137, Tb s n (As X), Mp m E]) h) fun k hk => ⟨(s, m, E), ⟨h1, h2⟩, hk⟩
theorem dc_open (h : sat g w (Dc b n X :: L)) : ∃ p c, (X.length = n ∧ 1 ≤ n ∧ n ≤ 64 ∧ SlOk (As X)) ∧ sat g w (Cl b [.slice p n c] 163 :: Sl 165 4 p n c (fl eId X) :: L) := by
  obtain ⟨⟨p, c⟩, h1, h2⟩ := sat_open (X := Option Addr × Nat) (p := fun _ => X.length = n ∧ 1 ≤ n ∧ n ≤ 64 ∧ SlOk (As X)) (B := fun x => star [Cl b [.slice x.1 n x.2] 163, Sl 165 4 x.1 n x.2 (fl eId X)]) h (fun k hk => hk)
  exact ⟨p, c, h1, sat_unstar h2⟩
theorem dc_close {p : Option Addr} {c : Nat} (h1 : X.length = n ∧ 1 ≤ n ∧ n ≤ 64 ∧ SlOk (As X)) (h : sat g w (Cl b [.slice p n c] 163 :: Sl 165 4 p n c (fl eId X) :: L)) : sat g w (Dc b n X :: L) :=
  sat_imp (sat_star (K := [Cl b [.slice p n c] 163, Sl 165 4 p n c (fl eId X)]) h) fun k hk => ⟨(p, c), h1, hk⟩
end
theorem cls_no {A : List Sl2} {o : Ky} {e : Int} (h : errA A o = e) (he : e ≠ 0) : clsA A o = A := by
  unfold clsA
  rw [if_neg (by omega)]
theorem cls_ok {A : List Sl2} {x y z : Int} {q : Nat} (h : errA A (x, y, z) = 0) (hq : y = (q : Int)) : clsA A (x, y, z) = giveA A q z := by
  unfold clsA
  rw [if_pos h]
  show giveA A y.toNat z = _
  rw [hq, Int.toNat_natCast]
theorem clsm_no {A : List Sl2} {E : Mm} {o : Ky} (h : ¬ errA A o = 0) : E = clsM A E o := (if_neg h).symm
theorem clsm_ok {A : List Sl2} {E : Mm} {o : Ky} (h : errA A o = 0) : mdel E o = clsM A E o := (if_pos h).symm
theorem slOk_as {X : Xs} {i : Nat} {x : Fl} (h : SlOk (As X)) (hx : X[i]? = some x) : 0 ≤ x.1 ∧ x.1 ≤ 2 ∧ 1 ≤ x.2.1 ∧ x.2.1 ≤ 4294967295 := h _ (List.mem_of_getElem? (as_get hx))
set_option maxHeartbeats 4000000 in
theorem made_y (b s m : Nat) : HT Tryz.prog 123 [pV b] [Cl b [pV s, .map (some m)] 137] (fun v K => v = .bool true ∧ K = [Cl b [pV s, .map (some m)] 137]) := by
 refine hiS Tryz.func123 Tryz.ntmps123 fun g w0 R h0 => go [rd 1 6 0 0 1 h0] ?_
 exact en (.bool true) [] ⟨_, _, rfl, ⟨rfl, rfl⟩, h0⟩

set_option maxHeartbeats 4000000 in
theorem ffile (y z : Int) : HT Tryz.prog 154 [.agg #[iV y, uV z]] [] (fun v K => v = .agg #[iV 1, iV y, uV z] ∧ K = []) := by
 refine hiS Tryz.func154 Tryz.ntmps154 fun g w0 R h0 => go [] <| nP 183 [iV y, uV z] h0 (fun _ _ h12 => ?_)
 refine nP 32 [iV 0, iV 0, uV 0] h12 (fun _ _ h15 => ?_)
 refine go [rd 1 1 1 0 1 h15, rd 1 3 1 1 1 h15] <| sP [(0, iV 1), (1, iV y), (2, uV z)] [iV 1, iV y, uV z] h15 fun _ h17 => go [] ?_
 exact en (.agg #[iV 1, iV y, uV z]) [rd 0 0 0 0 3 h17] ⟨_, _, rfl, ⟨rfl, rfl⟩, (tk1 (sf2 h17))⟩

set_option maxHeartbeats 4000000 in
theorem cls1_ht (c2 c5 b s m n : Nat) (A : List Sl2) (q : Nat) (a : Sl2) (ha : A[q]? = some a) (i gn : Int) (hc : i = (q : Int) ∧ a.1 = 1 ∧ a.2 = gn) : HT Tryz.prog 149 [.agg #[iV i, uV gn], pV c2, pV c5] [Cl c2 [pV b] 84, Cl c5 [iV 0] 26, Cl b [pV s, .map (some m)] 137, Tb s n A] (fun v K => v = .tuple #[] ∧ K = [Cl c2 [pV b] 84, Cl c5 [iV 0] 26, Cl b [pV s, .map (some m)] 137, Tb s n (giveA A q gn)]) := by
 refine hiS Tryz.func149 Tryz.ntmps149 fun g w0 R h0 => go [] <| nP 183 [iV i, uV gn] h0 (fun _ _ h12 => ?_)
 refine go [] <| dw (fls [0, 1, 2, 3, 4] (Tr.an 5 (Tr.an 6 Tr.nil))) h12 fun _ h14 => ?_
 have h15 := tk6 (sf5 (sf4 (sf4 (sf4 (sf4 (sf5 h14))))))
 refine go [rd 1 0 1 0 1 h14, rd 1 3 3 0 1 h14, rd 1 4 0 0 2 h14] <| cw1 Tryz.call150 (give_ht s n A q a ha i gn (by omega)) h15 fun _ h17 => ⟨kd [], ?_⟩
 refine sG [(0, iV 0)] [iV 0] (tk6 (sf5 (sf4 (sf4 (sf4 (sf5 (sf5 h17))))))) fun _ h20 => ⟨kd [], ?_⟩
 refine go [] ?_
 exact en (.tuple #[]) [] ⟨_, _, rfl, ⟨rfl, rfl⟩, (tk5 (sf4 (sf4 (sf4 (sf4 (sf5 (tk6 (sf5 (sf4 (sf5 (sf3 (sf3 (sf5 h20)))))))))))))⟩

set_option maxHeartbeats 4000000 in
theorem with_c (c2 c3 c5 c6 b s m n : Nat) (A : List Sl2) (E : Mm) (x y z : Int) (hz0 : 0 ≤ z) (hz1 : z ≤ 4294967295) : HT Tryz.prog 148 [pV b, .agg #[iV x, iV y, uV z], .func (Fn.func 149) #[] #[pV c2, pV c5]] [Cl c2 [pV b] 84, Cl c5 [iV 0] 26, Cl b [pV s, .map (some m)] 137, Tb s n A] (fun v K => v = iV (errA A (x, y, z)) ∧ K = [Cl c2 [pV b] 84, Cl c5 [iV 0] 26, Cl b [pV s, .map (some m)] 137, Tb s n (clsA A (x, y, z))]) := by
 refine hiS Tryz.func148 Tryz.ntmps148 fun g w0 R h0 => ?_
 have hb10 := tb_bd (j := 3) h0 rfl
 have hAl_ := hb10.1; have hb11 := hb10.2.1; have hb12 := hb10.2.2.1; have hok_ := hb10.2.2.2
 refine go [] <| nP 32 [iV x, iV y, uV z] h0 (fun _ _ h15 => ?_)
 refine go [rd 1 1 0 1 1 h15, rd 1 3 0 2 1 h15] <| nP 183 [iV 0, uV 0] h15 (fun _ _ h18 => ?_)
 refine sP [(0, iV y), (1, uV z)] [iV y, uV z] h18 fun _ h20 => ?_
 have h21 := tk7 (sf6 (sf5 (sf5 (sf5 (sf5 (sf6 (sf6 h20)))))))
 refine go [] <| cl1 Tryz.call123 (made_y b s m) h21 fun _ h23 => go [rd 4 0 2 0 3 h23] ?_
 by_cases c24 : 1 ≤ x
 ·
  by_cases c25 : x ≤ 3
  ·
   by_cases c26 : 0 ≤ y
   ·
    by_cases c27 : y ≤ 63
    ·
     by_cases c28 : 1 ≤ z
     ·
      refine cl0 Tryz.call15 (couter_ok x y z (by omega) (by omega) (by omega)) h23 fun _ h30 => go [rd 4 5 2 0 1 h30, .s 4 6] ?_
      by_cases c31 : x = 1
      ·
       refine go [.v 4 6 (qnF x 1)] <| dw (fls [0, 1, 2, 3, 4] (Tr.an 5 (Tr.fl 6 Tr.nil))) h30 fun _ h33 => go [rd 6 3 0 0 1 h33, rd 6 4 1 0 2 h33] ?_
       by_cases c34 : y < (n : Int)
       ·
        obtain ⟨kk35, hk36⟩ : ∃ z_ : Nat, y = (z_ : Int) := ⟨(y).toNat, by omega⟩
        obtain ⟨x37, hx38⟩ : ∃ x : Sl2, A[kk35]? = some x := ⟨_, List.getElem?_eq_getElem (by rw [hAl_]; omega)⟩
        have hb39 := hok_ x37 (List.mem_of_getElem? hx38)
        by_cases c40 : x37.1 = 1
        ·
         by_cases c41 : x37.2 = z
         ·
          refine cw1 Tryz.call146 (check_ok s n A kk35 x37 hx38 y z (by omega)) (tk7 (sf6 (sf5 (sf5 (sf5 (sf5 (sf5 (sf6 h33)))))))) fun _ h44 => ⟨kd [], ?_⟩
          have h45 := tk7 (sf6 (sf6 (sf4 (sf3 (sf4 (sf4 (sf6 h44)))))))
          refine go [rd 9 1 2 0 2 h44] <| cl4 Tryz.call149 (cls1_ht c2 c5 b s m n A kk35 x37 hx38 y z (by omega)) h45 fun _ h47 => go [] ?_
          have he_ : errA A (x, y, z) = 0 := chk_ok A (by omega) (by omega) (by omega) (by omega) hx38 (by omega)
          have hc_ : clsA A (x, y, z) = (giveA A kk35 z) := cls_ok he_ (by omega)
          exact en (iV 0) [] ⟨_, [Cl c2 [pV b] 84, Cl c5 [iV 0] 26, Cl b [pV s, .map (some m)] 137, Tb s n (giveA A kk35 z)], rfl, ⟨by rw [he_], by rw [hc_]⟩, (tk5 (sf4 (sf4 (sf4 (sf4 (sf6 h47))))))⟩
         refine cw1 Tryz.call146 (check_stale s n A kk35 x37 hx38 y z (by omega)) (tk7 (sf6 (sf5 (sf5 (sf5 (sf5 (sf5 (sf6 h33)))))))) fun _ h51 => ⟨kd [], ?_⟩
         refine go [] ?_
         have he_ : errA A (x, y, z) = 7 := chk_stale A (by omega) (by omega) (by omega) (by omega) hx38 (by omega)
         have hc_ : clsA A (x, y, z) = A := cls_no he_ (by decide)
         exact en (iV 7) [] ⟨_, [Cl c2 [pV b] 84, Cl c5 [iV 0] 26, Cl b [pV s, .map (some m)] 137, Tb s n A], rfl, ⟨by rw [he_], by rw [hc_]⟩, (tk5 (sf4 (sf4 (sf4 (sf4 (sf6 (tk7 (sf6 (sf6 (sf4 (sf3 (sf4 (sf4 (sf6 h51))))))))))))))⟩
        refine cw1 Tryz.call146 (check_stale s n A kk35 x37 hx38 y z (by omega)) (tk7 (sf6 (sf5 (sf5 (sf5 (sf5 (sf5 (sf6 h33)))))))) fun _ h56 => ⟨kd [], ?_⟩
        refine go [] ?_
        have he_ : errA A (x, y, z) = 7 := chk_stale A (by omega) (by omega) (by omega) (by omega) hx38 (by omega)
        have hc_ : clsA A (x, y, z) = A := cls_no he_ (by decide)
        exact en (iV 7) [] ⟨_, [Cl c2 [pV b] 84, Cl c5 [iV 0] 26, Cl b [pV s, .map (some m)] 137, Tb s n A], rfl, ⟨by rw [he_], by rw [hc_]⟩, (tk5 (sf4 (sf4 (sf4 (sf4 (sf6 (tk7 (sf6 (sf6 (sf4 (sf3 (sf4 (sf4 (sf6 h56))))))))))))))⟩
       refine cw1 Tryz.call146 (check_range s n A y z (by omega)) (tk7 (sf6 (sf5 (sf5 (sf5 (sf5 (sf5 (sf6 h33)))))))) fun _ h61 => ⟨kd [], ?_⟩
       refine go [] ?_
       have he_ : errA A (x, y, z) = 3 := chk_range A hAl_ (by omega) (by omega) (by omega) (by omega) (by omega)
       have hc_ : clsA A (x, y, z) = A := cls_no he_ (by decide)
       exact en (iV 3) [] ⟨_, [Cl c2 [pV b] 84, Cl c5 [iV 0] 26, Cl b [pV s, .map (some m)] 137, Tb s n A], rfl, ⟨by rw [he_], by rw [hc_]⟩, (tk5 (sf4 (sf4 (sf4 (sf4 (sf6 (tk7 (sf6 (sf6 (sf4 (sf3 (sf4 (sf4 (sf6 h61))))))))))))))⟩
      refine go [.v 4 6 (qnT x 1)] ?_
      have he_ : errA A (x, y, z) = 2 := chk_arg A (by omega)
      have hc_ : clsA A (x, y, z) = A := cls_no he_ (by decide)
      exact en (iV 2) [] ⟨_, [Cl c2 [pV b] 84, Cl c5 [iV 0] 26, Cl b [pV s, .map (some m)] 137, Tb s n A], rfl, ⟨by rw [he_], by rw [hc_]⟩, (tk5 (sf4 (sf4 (sf4 (sf4 (sf6 (tk7 (sf6 (sf6 (sf4 (sf6 (sf3 (sf3 (sf6 h30))))))))))))))⟩
     refine cl0 Tryz.call15 (couter_no x y z (by omega) (by omega) (by omega)) h23 fun _ h67 => go [] ?_
     have he_ : errA A (x, y, z) = 2 := chk_arg A (by omega)
     have hc_ : clsA A (x, y, z) = A := cls_no he_ (by decide)
     exact en (iV 2) [] ⟨_, [Cl c2 [pV b] 84, Cl c5 [iV 0] 26, Cl b [pV s, .map (some m)] 137, Tb s n A], rfl, ⟨by rw [he_], by rw [hc_]⟩, (tk5 (sf4 (sf4 (sf4 (sf4 (sf6 (tk7 (sf6 (sf6 (sf4 (sf6 (sf3 (sf3 (sf6 h67))))))))))))))⟩
    refine cl0 Tryz.call15 (couter_no x y z (by omega) (by omega) (by omega)) h23 fun _ h71 => go [] ?_
    have he_ : errA A (x, y, z) = 2 := chk_arg A (by omega)
    have hc_ : clsA A (x, y, z) = A := cls_no he_ (by decide)
    exact en (iV 2) [] ⟨_, [Cl c2 [pV b] 84, Cl c5 [iV 0] 26, Cl b [pV s, .map (some m)] 137, Tb s n A], rfl, ⟨by rw [he_], by rw [hc_]⟩, (tk5 (sf4 (sf4 (sf4 (sf4 (sf6 (tk7 (sf6 (sf6 (sf4 (sf6 (sf3 (sf3 (sf6 h71))))))))))))))⟩
   refine cl0 Tryz.call15 (couter_no x y z (by omega) (by omega) (by omega)) h23 fun _ h75 => go [] ?_
   have he_ : errA A (x, y, z) = 2 := chk_arg A (by omega)
   have hc_ : clsA A (x, y, z) = A := cls_no he_ (by decide)
   exact en (iV 2) [] ⟨_, [Cl c2 [pV b] 84, Cl c5 [iV 0] 26, Cl b [pV s, .map (some m)] 137, Tb s n A], rfl, ⟨by rw [he_], by rw [hc_]⟩, (tk5 (sf4 (sf4 (sf4 (sf4 (sf6 (tk7 (sf6 (sf6 (sf4 (sf6 (sf3 (sf3 (sf6 h75))))))))))))))⟩
  refine cl0 Tryz.call15 (couter_no x y z (by omega) (by omega) (by omega)) h23 fun _ h79 => go [] ?_
  have he_ : errA A (x, y, z) = 2 := chk_arg A (by omega)
  have hc_ : clsA A (x, y, z) = A := cls_no he_ (by decide)
  exact en (iV 2) [] ⟨_, [Cl c2 [pV b] 84, Cl c5 [iV 0] 26, Cl b [pV s, .map (some m)] 137, Tb s n A], rfl, ⟨by rw [he_], by rw [hc_]⟩, (tk5 (sf4 (sf4 (sf4 (sf4 (sf6 (tk7 (sf6 (sf6 (sf4 (sf6 (sf3 (sf3 (sf6 h79))))))))))))))⟩
 refine cl0 Tryz.call15 (couter_no x y z (by omega) (by omega) (by omega)) h23 fun _ h83 => go [] ?_
 have he_ : errA A (x, y, z) = 2 := chk_arg A (by omega)
 have hc_ : clsA A (x, y, z) = A := cls_no he_ (by decide)
 exact en (iV 2) [] ⟨_, [Cl c2 [pV b] 84, Cl c5 [iV 0] 26, Cl b [pV s, .map (some m)] 137, Tb s n A], rfl, ⟨by rw [he_], by rw [hc_]⟩, (tk5 (sf4 (sf4 (sf4 (sf4 (sf6 (tk7 (sf6 (sf6 (sf4 (sf6 (sf3 (sf3 (sf6 h83))))))))))))))⟩

end Go.Proofs.YtggfnbpohmhphaaGreatDoor

/- Walks, printed by my generator f8.py. -/
namespace Go.Proofs.YtggfnbpohmhphaaGreatDoor
theorem take_y (b n : Nat) (A : List Sl2) (h : 0 < (inS 0 A 0).length) : HT Tryz.prog 153 [Value.pointer (some ⟨b, 0, none⟩)] [Tb b n A] (fun v K => v = Value.tuple #[Value.agg #[Value.int .i64 (((inS 0 A 0).getD 0 (0, 0)).1 : Int), Value.int .u32 ((inS 0 A 0).getD 0 (0, 0)).2], Value.int .i64 0] ∧ K = [Tb b n (A.set ((inS 0 A 0).getD 0 (0, 0)).1 (1, ((inS 0 A 0).getD 0 (0, 0)).2))]) :=
  (take_ht b n A).mono fun v K hP => by
    rw [(take_some h).1, (take_some h).2] at hP
    exact hP
theorem take_n (b n : Nat) (A : List Sl2) (h : (inS 0 A 0).length = 0) : HT Tryz.prog 153 [Value.pointer (some ⟨b, 0, none⟩)] [Tb b n A] (fun v K => v = Value.tuple #[Value.agg #[Value.int .i64 0, Value.int .u32 0], Value.int .i64 4] ∧ K = [Tb b n A]) :=
  (take_ht b n A).mono fun v K hP => by
    rw [(take_none h).1, (take_none h).2] at hP
    exact hP
theorem get_zero {L : List (Nat × Int)} (h : 0 < L.length) : L[0]? = some ((L.getD 0 (0, 0)).1, (L.getD 0 (0, 0)).2) := by
  rw [getD_some (List.getElem?_eq_getElem h), List.getElem?_eq_getElem h]
theorem tk_map {α β : Type} (f : α → β) {l : List α} {i : Nat} {x : α} (h : l[i]? = some x) : (l.take i).map f ++ [f x] = (l.take (i + 1)).map f := by
  rw [List.take_add_one, h, List.map_append]
  rfl
theorem tk_all_map {α β : Type} (f : α → β) {l : List α} {i : Nat} (h : l.length ≤ i) : (l.take i).map f = l.map f := by rw [List.take_of_length_le h]
set_option maxHeartbeats 4000000 in
theorem mclone (m : Nat) (E : Mm) : HT Tryz.prog 125 [.map (some m)] [Mp m E] (fun v K => ∃ m2 : Nat, v = .map (some m2) ∧ K = [Mp m E, Mp m2 E]) := by
 refine hiS Tryz.func125 Tryz.ntmps125 fun g w0 R h0 => go [.s 3 1] <| lwP (.iface 135 (.map (some m))) (law_mkIface (t := 135) (x := (Operand.tmp 5)) (by kernel_rfl) Tryz.underlying135 rfl (.map (some m)) (by kernel_rfl) _) ?_
 refine actG ?_
 refine an_clone (t := 135) (d := 7) (f := 159) (by kernel_rfl) rfl (fun w_ => by rw [run_callFunc_extern Tryz.func159 (by kernel_rfl) (by kernel_rfl) (by kernel_rfl) (e := Extern.MapsClone.clone) (by kernel_rfl)]; simp only [Sem.run_bind, Sem.run_pure]) h0 ?_
 intro r10 _ h12
 refine nxA <| lwP (.map (some r10)) (law_tAssert (t := 135) (s := 20) (x := (Operand.tmp 7)) (by kernel_rfl) Tryz.underlying135 rfl (.map (some r10)) (by kernel_rfl) _) <| go [] ?_
 exact en (.map (some r10)) [] ⟨_, _, rfl, ⟨r10, rfl, rfl⟩, (tk3 (sf2 (sf1 (sf2 h12))))⟩

set_option maxHeartbeats 4000000 in
theorem fnew_ok (n : Nat) (gn : Int) (hn : 1 ≤ n ∧ n ≤ 64) (hgn : 1 ≤ gn ∧ gn ≤ 4294967295) : HT Tryz.prog 49 [iV (((n : Nat) : Int)), uV gn] [] (fun v K => ∃ b : Nat, v = .tuple #[pV b, iV 0] ∧ K = [Fd b n (List.replicate n (0, gn, 0))]) := by
 refine hiS Tryz.func49 Tryz.ntmps49 fun g w0 R h0 => go [.v 1 1 (oF ((n : Int) > 64))] <| cP Tryz.call105 (snew_ok n (by omega) gn (by omega)) h0 ?_
 rintro v K _ (⟨b10, rfl, rfl⟩) h12
 have h13 := ap1 h12
 refine go [] ?_
 refine actG ?_
 refine an_makeMap (t := 135) (d := 20) (by kernel_rfl) (by kernel_rfl) rfl h13 ?_
 intro r14 _ h16
 refine nxA <| go [] <| nP 137 [pV b10, .map (some r14)] h16 (fun r17 w18 h19 => ?_)
 refine go [] ?_
 have hn64_ : n ≤ 64 := by omega
 have h21 : sat g w18 [Fd r17 n (List.replicate n (0, gn, 0)), R] := fd_close nums_nil (by omega) (List.map_replicate.symm) rfl (tk4 (sf3 (sf3 (sf2 (sf3 h19)))))
 exact en (.tuple #[pV r17, iV 0]) [] ⟨_, _, rfl, ⟨r17, rfl, rfl⟩, h21⟩

set_option maxHeartbeats 4000000 in
theorem fopen_ht (b n : Nat) (X : Xs) (v : Int) : HT Tryz.prog 118 [pV b, iV v] [Fd b n X] (fun r K => r = .tuple #[.agg #[iV (opnO X v).1, iV (opnO X v).2.1, uV (opnO X v).2.2], iV (opnE X v)] ∧ K = [Fd b n (opnX X v)]) := by
 refine hiS Tryz.func118 Tryz.ntmps118 fun g w0 R h0 => ?_
 obtain ⟨s10, m11, E12, hN13, h14⟩ := fd_open h0
 have hn64_ := hN13.2
 have hb15 := tb_bd (j := 1) h14 rfl
 have hAl_ := hb15.1; have hn1_ := hb15.2.1; have hok_ := hb15.2.2.2
 refine go [] <| nP 32 [iV 0, iV 0, uV 0] h14 (fun r16 _ h18 => ?_)
 have h19 := tk5 (sf4 (sf3 (sf4 (sf4 (sf4 h18)))))
 refine go [] <| cl1 Tryz.call123 (made_y b s10 m11) h19 fun _ h21 => go [.s 3 1] ?_
 by_cases c22 : v < 0
 ·
  have h23 := tk5 (sf4 (sf3 (sf4 (sf4 (sf4 h21)))))
  refine go [.v 3 1 (oT (v < 0))] <| sP [(0, iV 0), (1, iV 0), (2, uV 0)] [iV 0, iV 0, uV 0] h23 fun w24 h25 => go [] ?_
  have ho_ := opn_arg (X := X) (v := v) (by omega)
  have h27 : sat g w24 [Fd b n X, Cl r16 [iV 0, iV 0, uV 0] 32, R] := fd_close hN13.1 (by omega) rfl rfl (tk5 (sf4 (sf4 (sf4 (sf1 (sf4 h25))))))
  exact en (.tuple #[.agg #[iV 0, iV 0, uV 0], iV 2]) [rd 0 0 0 0 3 h25] ⟨_, [Fd b n X], rfl, ⟨by rw [ho_.1, ho_.2.1], by rw [ho_.2.2]⟩, (tk2 (sf1 (sf2 h27)))⟩
 refine go [.v 3 1 (oF (v < 0)), .s 3 4] ?_
 by_cases c29 : v > 65535
 ·
  have h30 := tk5 (sf4 (sf3 (sf4 (sf4 (sf4 h21)))))
  refine go [.v 3 4 (oT (v > 65535))] <| sP [(0, iV 0), (1, iV 0), (2, uV 0)] [iV 0, iV 0, uV 0] h30 fun w31 h32 => go [] ?_
  have ho_ := opn_arg (X := X) (v := v) (by omega)
  have h34 : sat g w31 [Fd b n X, Cl r16 [iV 0, iV 0, uV 0] 32, R] := fd_close hN13.1 (by omega) rfl rfl (tk5 (sf4 (sf4 (sf4 (sf1 (sf4 h32))))))
  exact en (.tuple #[.agg #[iV 0, iV 0, uV 0], iV 2]) [rd 0 0 0 0 3 h32] ⟨_, [Fd b n X], rfl, ⟨by rw [ho_.1, ho_.2.1], by rw [ho_.2.2]⟩, (tk2 (sf1 (sf2 h34)))⟩
 refine go [.v 3 4 (oF (v > 65535)), rd 5 3 0 0 1 h21] ?_
 by_cases c36 : 0 < (inS 0 (As X) 0).length
 ·
  refine cl1 Tryz.call153 (take_y s10 n (As X) (by omega)) (tk5 (sf4 (sf3 (sf3 (sf4 (sf4 h21)))))) fun _ h39 => go [] <| nP 183 [iV 0, uV 0] h39 (fun r40 _ h42 => ?_)
  refine sP [(0, iV (((((inS 0 (As X) 0).getD 0 (0, 0)).1 : Nat) : Int))), (1, uV (((inS 0 (As X) 0).getD 0 (0, 0)).2))] [iV (((((inS 0 (As X) 0).getD 0 (0, 0)).1 : Nat) : Int)), uV (((inS 0 (As X) 0).getD 0 (0, 0)).2)] h42 fun _ h44 => go [rd 8 0 0 0 2 h44] <| cl0 Tryz.call154 (ffile (((((inS 0 (As X) 0).getD 0 (0, 0)).1 : Nat) : Int)) (((inS 0 (As X) 0).getD 0 (0, 0)).2)) h44 fun _ h46 => nP 32 [iV 0, iV 0, uV 0] h46 (fun r47 _ h49 => ?_)
  refine sP [(0, iV 1), (1, iV (((((inS 0 (As X) 0).getD 0 (0, 0)).1 : Nat) : Int))), (2, uV (((inS 0 (As X) 0).getD 0 (0, 0)).2))] [iV 1, iV (((((inS 0 (As X) 0).getD 0 (0, 0)).1 : Nat) : Int)), uV (((inS 0 (As X) 0).getD 0 (0, 0)).2)] h49 fun _ h51 => go [] <| dw (fls [0, 1, 2, 3, 4, 5] (Tr.an 6 Tr.nil)) h51 fun _ h53 => ?_
  have h54 := tk7 (sf6 (sf5 (sf5 (sf5 (sf5 (sf5 (sf6 h53)))))))
  refine go [rd 9 3 3 1 1 h53, rd 9 4 0 0 3 h53] ?_
  refine actG ?_
  refine an_mapUpdate (t := 135) (m := (Operand.tmp 39)) (x := (Operand.tmp 40)) (y := (Operand.tmp 41)) (by kernel_rfl) (by kernel_rfl) Tryz.underlying135 keyok (1, ((((inS 0 (As X) 0).getD 0 (0, 0)).1 : Nat) : Int), ((inS 0 (As X) 0).getD 0 (0, 0)).2) v (by kernel_rfl) (by kernel_rfl) (by kernel_rfl) h54 (mset E12 (1, ((((inS 0 (As X) 0).getD 0 (0, 0)).1 : Nat) : Int), ((inS 0 (As X) 0).getD 0 (0, 0)).2) v) rfl ?_
  intro _ h56
  refine ⟨kd [], nxN ?_⟩
  have h57 := tk7 (sf6 (sf5 (sf5 (sf5 (sf5 (sf5 (sf6 h56)))))))
  refine go [rd 10 0 1 0 3 h56] <| sP [(0, iV 1), (1, iV (((((inS 0 (As X) 0).getD 0 (0, 0)).1 : Nat) : Int))), (2, uV (((inS 0 (As X) 0).getD 0 (0, 0)).2))] [iV 1, iV (((((inS 0 (As X) 0).getD 0 (0, 0)).1 : Nat) : Int)), uV (((inS 0 (As X) 0).getD 0 (0, 0)).2)] h57 fun w58 h59 => go [] ?_
  have ho_ := opn_ok (X := X) (v := v) ⟨by omega, by omega⟩ (get_zero (by omega))
  have h61 : sat g w58 [Fd b n (X.set ((inS 0 (As X) 0).getD 0 (0, 0)).1 (1, ((inS 0 (As X) 0).getD 0 (0, 0)).2, v)), Cl r16 [iV 1, iV (((((inS 0 (As X) 0).getD 0 (0, 0)).1 : Nat) : Int)), uV (((inS 0 (As X) 0).getD 0 (0, 0)).2)] 32, Cl r47 [iV 1, iV (((((inS 0 (As X) 0).getD 0 (0, 0)).1 : Nat) : Int)), uV (((inS 0 (As X) 0).getD 0 (0, 0)).2)] 32, Cl r40 [iV (((((inS 0 (As X) 0).getD 0 (0, 0)).1 : Nat) : Int)), uV (((inS 0 (As X) 0).getD 0 (0, 0)).2)] 183, R] := fd_close (nums_open hN13.1) (by omega) (as_set X _ (1, _, v)).symm rfl (tk7 (sf6 (sf5 (sf4 (sf3 (sf4 (sf4 (sf6 h59))))))))
  exact en (.tuple #[.agg #[iV 1, iV (((((inS 0 (As X) 0).getD 0 (0, 0)).1 : Nat) : Int)), uV (((inS 0 (As X) 0).getD 0 (0, 0)).2)], iV 0]) [rd 0 0 0 0 3 h59] ⟨_, [Fd b n (X.set ((inS 0 (As X) 0).getD 0 (0, 0)).1 (1, ((inS 0 (As X) 0).getD 0 (0, 0)).2, v))], rfl, ⟨by rw [ho_.1, ho_.2.1], by rw [ho_.2.2]⟩, (tk2 (sf1 (sf4 h61)))⟩
 refine cl1 Tryz.call153 (take_n s10 n (As X) (by omega)) (tk5 (sf4 (sf3 (sf3 (sf4 (sf4 h21)))))) fun _ h65 => go [] <| nP 183 [iV 0, uV 0] h65 (fun r66 _ h68 => ?_)
 refine sP [(0, iV 0), (1, uV 0)] [iV 0, uV 0] h68 fun _ h70 => ?_
 have h71 := tk6 (sf5 (sf4 (sf4 (sf4 (sf5 (sf5 h70))))))
 refine go [] <| sP [(0, iV 0), (1, iV 0), (2, uV 0)] [iV 0, iV 0, uV 0] h71 fun w72 h73 => go [] ?_
 have ho_ := opn_full (X := X) (v := v) ⟨by omega, by omega⟩ (by omega)
 have h75 : sat g w72 [Fd b n X, Cl r16 [iV 0, iV 0, uV 0] 32, Cl r66 [iV 0, uV 0] 183, R] := fd_close hN13.1 (by omega) rfl rfl (tk6 (sf5 (sf4 (sf5 (sf2 (sf2 (sf5 h73)))))))
 exact en (.tuple #[.agg #[iV 0, iV 0, uV 0], iV 4]) [rd 0 0 0 0 3 h73] ⟨_, [Fd b n X], rfl, ⟨by rw [ho_.1, ho_.2.1], by rw [ho_.2.2]⟩, (tk2 (sf1 (sf3 h75)))⟩

set_option maxHeartbeats 4000000 in
theorem fclose_ht (b n : Nat) (X : Xs) (x y z : Int) (hz0 : 0 ≤ z) (hz1 : z ≤ 4294967295) : HT Tryz.prog 115 [pV b, .agg #[iV x, iV y, uV z]] [Fd b n X] (fun v K => v = iV (errA (As X) (x, y, z)) ∧ K = [Fd b n (clsX X (x, y, z))]) := by
 refine hiS Tryz.func115 Tryz.ntmps115 fun g w0 R h0 => ?_
 obtain ⟨s10, m11, E12, hN13, h14⟩ := fd_open h0
 have hn64_ := hN13.2
 have hb15 := tb_bd (j := 1) h14 rfl
 have hAl_ := hb15.1; have hn1_ := hb15.2.1; have hok_ := hb15.2.2.2
 refine go [] <| nP 84 [pV b] h14 (fun r16 _ h18 => ?_)
 refine nP 32 [iV x, iV y, uV z] h18 (fun r19 _ h21 => ?_)
 refine go [] <| nP 26 [iV 0] h21 (fun r22 _ h24 => ?_)
 have hbd_ := chk_bd (As X) (x, y, z)
 have h25 := tk7 (sf6 (sf5 (sf6 (sf6 (sf3 (sf6 (sf6 h24)))))))
 refine go [rd 2 0 2 0 1 h24, rd 2 1 1 0 3 h24] <| cl4 Tryz.call148 (with_c r16 0 r22 0 b s10 m11 n (As X) E12 x y z (by omega) (by omega)) h25 fun w26 h27 => go [.s 3 1] ?_
 by_cases c28 : (errA (As X) (x, y, z)) = 0
 ·
  refine go [.v 3 1 (qnF ((errA (As X) (x, y, z))) 0)] <| dw (fls [0, 1, 2, 3, 4] (Tr.an 5 Tr.nil)) h27 fun _ h30 => ?_
  have h31 := tk7 (sf6 (sf5 (sf5 (sf5 (sf5 (sf5 (sf6 h30)))))))
  refine go [rd 5 0 0 0 1 h30, rd 5 3 2 1 1 h30, rd 5 4 4 0 3 h30] ?_
  refine actG ?_
  refine an_delete (t := 135) (t2 := 32) (d := none) (m := (Operand.tmp 17)) (x := (Operand.tmp 18)) (by kernel_rfl) Tryz.underlying135 keyok (x, y, z) (by kernel_rfl) (by kernel_rfl) h31 (by kernel_rfl) (mdel E12 (x, y, z)) rfl ?_
  intro w32 h33
  refine ⟨_, rfl, ?_⟩
  have h34 : sat g w32 [Mp m11 (mdel E12 (x, y, z)), Cl r16 [pV b] 84, Cl r22 [iV 0] 26, Cl b [pV s10, .map (some m11)] 137, Tb s10 n (clsA (As X) (x, y, z)), Cl r19 [iV x, iV y, uV z] 32, R] := h33
  refine ⟨kd [], nxN ?_⟩
  refine go [rd 6 0 2 0 1 h34] ?_
  have h36 : sat g w32 [Fd b n (clsX X (x, y, z)), Cl r16 [pV b] 84, Cl r22 [iV 0] 26, Cl r19 [iV x, iV y, uV z] 32, R] := fd_close (nums_close hN13.1) (by omega) (clsA_as X _) (clsm_ok (by omega)) (tk7 (sf6 (sf6 (sf4 (sf4 (sf4 (sf6 (sf6 h34))))))))
  exact en (iV 0) [] ⟨_, _, rfl, ⟨by rw [show errA (As X) (x, y, z) = 0 from by omega], rfl⟩, (tk2 (sf1 (sf4 h36)))⟩
 refine go [.v 3 1 (qnT ((errA (As X) (x, y, z))) 0)] ?_
 have h39 : sat g w26 [Fd b n (clsX X (x, y, z)), Cl r16 [pV b] 84, Cl r22 [iV 0] 26, Cl r19 [iV x, iV y, uV z] 32, R] := fd_close (nums_close hN13.1) (by omega) (clsA_as X _) (clsm_no (by omega)) (tk7 (sf6 (sf6 (sf6 (sf3 (sf3 (sf5 (sf6 h27))))))))
 exact en (iV ((errA (As X) (x, y, z)))) [] ⟨_, _, rfl, ⟨rfl, rfl⟩, (tk2 (sf1 (sf4 h39)))⟩

set_option maxHeartbeats 4000000 in
theorem fcopy_ht (b n : Nat) (X : Xs) : HT Tryz.prog 72 [pV b] [Fd b n X] (fun v K => ∃ b2 : Nat, v = pV b2 ∧ K = [Fd b n X, Fd b2 n X]) := by
 refine hiS Tryz.func72 Tryz.ntmps72 fun g w0 R h0 => ?_
 obtain ⟨s10, m11, E12, hN13, h14⟩ := fd_open h0
 have hn64_ := hN13.2
 have hb15 := tb_bd (j := 1) h14 rfl
 have hAl_ := hb15.1; have hn1_ := hb15.2.1; have hok_ := hb15.2.2.2
 refine go [] <| cl1 Tryz.call123 (made_y b s10 m11) h14 fun _ h17 => go [] <| dw (fls [0, 1, 2, 3, 5, 6, 7, 8] (Tr.an 4 (Tr.an 9 (Tr.fl 10 (Tr.an 11 (Tr.fl 12 Tr.nil)))))) h17 fun _ h19 => ?_
 have h21 := tk4 (sf3 (sf2 (sf3 (sf3 h19))))
 refine go [rd 3 3 0 0 1 h19, rd 3 8 0 1 1 h19] <| cG Tryz.call124 (scopy_ht s10 n (As X)) h21 ?_
 rintro v K _ (⟨b20, rfl, rfl⟩) h23
 have h24 := ap2 h23
 refine ⟨kd [rd 0 8 2 1 1 h24], ?_⟩
 refine cG Tryz.call125 (mclone m11 E12) (tk5 (sf4 (sf3 (sf3 (sf3 (sf4 h24)))))) ?_
 rintro v K _ (⟨m25, rfl, rfl⟩) h28
 have h29 := ap2 h28
 refine ⟨kd [], ?_⟩
 refine go [] <| nG (fun q_ => pV q_) 137 [pV b20, .map (some m25)] h29 (fun r30 w31 h32 => ⟨kd [], ?_⟩)
 refine go [] ?_
 have h34 : sat g w31 [Fd r30 n X, Mp m11 E12, Tb s10 n (As X), Cl b [pV s10, .map (some m11)] 137, R] := fd_close hN13.1 (by omega) rfl rfl (tk7 (sf6 (sf6 (sf5 (sf4 (sf5 (sf6 (sf6 h32))))))))
 have h36 : sat g w31 [Fd b n X, Fd r30 n X, R] := fd_close hN13.1 (by omega) rfl rfl (tk5 (sf4 (sf3 (sf2 (sf1 (sf4 h34))))))
 exact en (pV r30) [] ⟨_, _, rfl, ⟨r30, rfl, rfl⟩, h36⟩

set_option maxHeartbeats 4000000 in
theorem fall_ht (b n : Nat) (X : Xs) : HT Tryz.prog 193 [pV b] [Fd b n X] (fun v K => ∃ (p : Option Addr) (c : Nat), v = .slice p ((inS 1 (As X) 0).length) c ∧ K = [Fd b n X, Sl 32 3 p (((inS 1 (As X) 0).length)) c (fl eO (allX X))]) := by
 refine hiS Tryz.func193 Tryz.ntmps193 fun g w0 R h0 => ?_
 obtain ⟨s10, m11, E12, hN13, h14⟩ := fd_open h0
 have hn64_ := hN13.2
 have hb15 := tb_bd (j := 1) h14 rfl
 have hAl_ := hb15.1; have hn1_ := hb15.2.1; have hok_ := hb15.2.2.2
 refine go [] <| cl1 Tryz.call123 (made_y b s10 m11) h14 fun _ h17 => ?_
 have h20 := tk4 (sf3 (sf2 (sf3 (sf3 h17))))
 refine go [rd 4 3 0 0 1 h17] <| cP Tryz.call173 (taken_ht s10 n (As X)) h20 ?_
 rintro v K w21 (⟨p18, c19, rfl, rfl⟩) h22
 have h23 := ap2 h22
 refine go [] ?_
 have hl_ : ((inS 1 (As X) 0).length) ≤ 64 := by have h1_ := inS_len 1 (As X) 0; omega
 have h24 : sat g w21 [Sl 32 3 none 0 0 (fl eO []), Tb s10 n (As X), Sl 183 2 p18 (((inS 1 (As X) 0).length)) c19 (fl eRf (inS 1 (As X) 0)), Cl b [pV s10, .map (some m11)] 137, Mp m11 E12, R] := sl_nil 32 3 h23
 refine lpS (fun mz_ a w => ∃ i : Nat, ∃ p2 : Option Addr, ∃ c2 : Nat, ∃ lr : Fr, mz_ = ((inS 1 (As X) 0).length) - i ∧ (i ≤ ((inS 1 (As X) 0).length)) ∧ a = mk 26 (([(3, .slice p2 i c2), (13, .slice p18 (((inS 1 (As X) 0).length)) c19), (14, iV ((((inS 1 (As X) 0).length : Nat) : Int))), (15, iV (i : Int))] : Fr) ++ lr) ∧ sat g w [Sl 32 3 p2 i c2 (fl eO (((inS 1 (As X) 0).take i).map (fun r : Nat × Int => ((1, (r.1 : Int), r.2) : Ky)))), Sl 183 2 p18 (((inS 1 (As X) 0).length)) c19 (fl eRf (inS 1 (As X) 0)), Cl b [pV s10, .map (some m11)] 137, Tb s10 n (As X), Mp m11 E12, R]) (((inS 1 (As X) 0).length) - 0) ⟨0, none, 0, _, rfl, (Nat.zero_le _), (lvF [.k 3 (.slice none 0 0), .k 13 (.slice p18 (((inS 1 (As X) 0).length)) c19), .k 14 (iV ((((inS 1 (As X) 0).length : Nat) : Int))), .o 15 (oJ .i64 0 (0 : Int))]), (tk6 (sf5 (sf5 (sf5 (sf3 (sf5 (sf5 h24)))))))⟩ ?_
 rintro m27 a28 w29 ⟨i, p2, c2, lr26, rfl, hi, rfl, h30⟩
 refine ga <| go [.s 5 0] ?_
 by_cases c31 : (i : Int) < (((inS 1 (As X) 0).length : Nat) : Int)
 ·
  obtain ⟨b32, hp33⟩ := sl_ptr0 (j := 1) h30 rfl (by omega)
  refine go [.v 5 0 (oT ((i : Int) < (((inS 1 (As X) 0).length : Nat) : Int))), .s 6 0] <| lwP (.pointer (some ⟨b32, i * 2, none⟩)) (law_indexSlP (x := (Operand.tmp 13)) (i := (Operand.tmp 15)) (p := p18) (b := b32) (off := 0) (z := (i : Int)) (len := (((inS 1 (As X) 0).length))) (cap := c19) (by kernel_rfl) Tryz.underlying185 2 (by kernel_rfl) i (by kernel_rfl) hp33 (by kernel_rfl) (by omega) (by omega) (i * 2) (by omega) _) ?_
  have h34 := tk6 (sf5 (sf4 (sf5 (sf5 (sf5 (sf5 h30))))))
  have hl35 := fl_n eRf_ok (by decide) h34
  obtain ⟨x36, hx37⟩ : ∃ x, (inS 1 (As X) 0)[i]? = some x := ⟨_, List.getElem?_eq_getElem (by rw [hl35]; omega)⟩
  refine go [.r 6 1 b32 (i * 2) [iV (((x36.1 : Nat) : Int)), uV x36.2] ⟨gv_cell (j := 0) h34 rfl (gv_sl _ _ _) hp33 (fl_get eRf_ok (j := 0) (v := iV (((x36.1 : Nat) : Int))) hx37 rfl) (i * 2) (by omega), gv_cell (j := 0) h34 rfl (gv_sl _ _ _) hp33 (fl_get eRf_ok (j := 1) (v := uV x36.2) hx37 rfl) (i * 2 + 1) (by omega), trivial⟩] <| nP 183 [iV 0, uV 0] h34 (fun r38 _ h40 => ?_)
  refine sP [(0, iV (((x36.1 : Nat) : Int))), (1, uV x36.2)] [iV (((x36.1 : Nat) : Int)), uV x36.2] h40 fun _ h42 => go [rd 7 1 0 0 2 h42] <| cl0 Tryz.call154 (ffile (((x36.1 : Nat) : Int)) x36.2) h42 fun _ h44 => nG (fun q_ => .slice (some ⟨q_, 0, none⟩) 1 1) 32 [iV 1, iV (((x36.1 : Nat) : Int)), uV x36.2] h44 (fun r45 _ h47 => ⟨kd [], ?_⟩)
  have h48 := tk8 (sf7 (sf6 (sf6 (sf6 (sf7 (sf7 (sf7 (sf7 h47))))))))
  refine actG ?_
  refine an_append (d := 23) (sz := 3) (s := (Operand.tmp 19)) (x := (Operand.tmp 22)) (z := .agg #[iV 0, iV 0, uV 0]) (p := p2) (m := i) (c := c2) (k := 1) (c2 := 1) (a := ⟨r45, 0, none⟩) (by_ := 24) (by kernel_rfl) (by kernel_rfl) rfl Tryz.underlying30 (by kernel_rfl) rfl (by decide) (by kernel_rfl) (by kernel_rfl) h48 (fl eO [(1, ((x36.1 : Nat) : Int), x36.2)]) rfl (fun j u hj => by rw [add_off]; exact sat_cell h48 1 rfl (by rw [Nat.zero_add]; exact hj)) (fl_one eO_ok _) (by omega) (by omega) (i + 1) (by omega) ?_
  intro p49 cap50 w51 h52
  have h53 : sat g w51 [Sl 32 3 p49 (i + 1) cap50 (fl eO ((((inS 1 (As X) 0).take i).map (fun r : Nat × Int => ((1, (r.1 : Int), r.2) : Ky))) ++ [(1, ((x36.1 : Nat) : Int), x36.2)])), Cl r45 [iV 1, iV (((x36.1 : Nat) : Int)), uV x36.2] 32, Cl r38 [iV (((x36.1 : Nat) : Int)), uV x36.2] 183, Sl 183 2 p18 (((inS 1 (As X) 0).length)) c19 (fl eRf (inS 1 (As X) 0)), Cl b [pV s10, .map (some m11)] 137, Tb s10 n (As X), Mp m11 E12, R] := sat_imp h52 (fun _ hh => by rw [fl_app]; exact hh)
  obtain ⟨hn54, hn55⟩ := sl_le h53
  refine nxA <| go [.v 8 0 (oIr ((i : Int) + 1))] ?_
  refine enL ?_
  have h56 : sat g w51 [Sl 32 3 p49 (i + 1) cap50 (fl eO (((inS 1 (As X) 0).take (i + 1)).map (fun r : Nat × Int => ((1, (r.1 : Int), r.2) : Ky)))), Cl r45 [iV 1, iV (((x36.1 : Nat) : Int)), uV x36.2] 32, Cl r38 [iV (((x36.1 : Nat) : Int)), uV x36.2] 183, Sl 183 2 p18 (((inS 1 (As X) 0).length)) c19 (fl eRf (inS 1 (As X) 0)), Cl b [pV s10, .map (some m11)] 137, Tb s10 n (As X), Mp m11 E12, R] := sat_imp h53 (fun _ hh_ => by rw [show (((((inS 1 (As X) 0).take i).map (fun r : Nat × Int => ((1, (r.1 : Int), r.2) : Ky))) ++ [(1, ((x36.1 : Nat) : Int), x36.2)]) : List Ky) = (((inS 1 (As X) 0).take (i + 1)).map (fun r : Nat × Int => ((1, (r.1 : Int), r.2) : Ky))) from tk_map (fun r : Nat × Int => ((1, (r.1 : Int), r.2) : Ky)) hx37] at hh_; exact hh_)
  have h58 := tk6 (tk8 (sf7 (sf7 (sf7 (sf7 (sf7 (sf7 (sf2 (sf2 h56)))))))))
  change ∃ n', n' < _ ∧ _
  refine ⟨(((inS 1 (As X) 0).length) - (i + 1)), by omega, (i + 1), p49, cap50, _, rfl, (by omega), (lvF [.k 3 (.slice p49 (i + 1) cap50), .k 13 (.slice p18 (((inS 1 (As X) 0).length)) c19), .k 14 (iV ((((inS 1 (As X) 0).length : Nat) : Int))), .o 15 (oJ .i64 ((i : Int) + 1) ((((i + 1) : Nat) : Int)))]), h58⟩
 refine go [.v 5 0 (oF ((i : Int) < (((inS 1 (As X) 0).length : Nat) : Int)))] <| up <| go [] ?_
 have h59 : sat g w29 [Sl 32 3 p2 i c2 (fl eO (allX X)), Sl 183 2 p18 (((inS 1 (As X) 0).length)) c19 (fl eRf (inS 1 (As X) 0)), Cl b [pV s10, .map (some m11)] 137, Tb s10 n (As X), Mp m11 E12, R] := sat_imp h30 (fun _ hh_ => by rw [show ((((inS 1 (As X) 0).take i).map (fun r : Nat × Int => ((1, (r.1 : Int), r.2) : Ky))) : List Ky) = (allX X) from (tk_all_map _ (by omega))] at hh_; exact hh_)
 have hi_ : i = ((inS 1 (As X) 0).length) := by omega
 have h60 : sat g w29 [Sl 32 3 p2 (((inS 1 (As X) 0).length)) c2 (fl eO (allX X)), Sl 183 2 p18 (((inS 1 (As X) 0).length)) c19 (fl eRf (inS 1 (As X) 0)), Cl b [pV s10, .map (some m11)] 137, Tb s10 n (As X), Mp m11 E12, R] := sat_imp h59 (fun _ hh_ => by rw [hi_] at hh_; exact hh_)
 have h62 : sat g w29 [Fd b n X, Sl 32 3 p2 (((inS 1 (As X) 0).length)) c2 (fl eO (allX X)), Sl 183 2 p18 (((inS 1 (As X) 0).length)) c19 (fl eRf (inS 1 (As X) 0)), R] := fd_close hN13.1 (by omega) rfl rfl (tk6 (sf5 (sf5 (sf5 (sf2 (sf2 (sf5 h60)))))))
 exact en (.slice p2 i c2) [] ⟨_, _, rfl, ⟨p2, c2, by rw [hi_], rfl⟩, (tk3 (sf2 (sf2 (sf3 h62))))⟩

end Go.Proofs.YtggfnbpohmhphaaGreatDoor

/-
  What answers are, as plain functions of lists. No program in sight.
-/
namespace Go.Proofs.YtggfnbpohmhphaaGreatDoor

def ix (z : Int) : Int := if z = 111 then 0 else if z = 108 then 1 else if z = 102 then 2 else -1
/-- The answer of a letter; 0: none. -/
def cd (b : UInt8) : Int := ix (b.toNat : Int) + 1
/-- How many letters of answers stand at the head. -/
def gl : List UInt8 → Nat
  | [] => 0
  | b :: l => if cd b = 0 then 0 else gl l + 1
/-- Parse. -/
def prs (l : List UInt8) : List Int × Int := if 2000 < l.length then ([], 11) else if gl l < l.length then ([], 9) else (l.map cd, 0)

theorem ix_bd (z : Int) : -1 ≤ ix z ∧ ix z ≤ 2 := by unfold ix; (repeat split) <;> omega
theorem gl_le (l : List UInt8) : gl l ≤ l.length := by
  induction l with
  | nil => simp [gl]
  | cons b l ih => simp only [gl]; split <;> simp <;> omega
theorem gl_at : ∀ {l : List UInt8} {i : Nat} {x : UInt8}, i < gl l → l[i]? = some x → cd x ≠ 0
  | b :: l, 0, x, h, hx => by
    simp only [gl] at h
    simp only [List.getElem?_cons_zero, Option.some.injEq] at hx
    subst hx
    split at h
    · omega
    · assumption
  | b :: l, i + 1, x, h, hx => by
    simp only [gl] at h
    split at h
    · omega
    · exact gl_at (l := l) (i := i) (by omega) (by simpa using hx)
theorem gl_go : ∀ {l : List UInt8} {i : Nat} {x : UInt8}, i ≤ gl l → l[i]? = some x → cd x ≠ 0 → i < gl l
  | [], i, x, _, hx, _ => by simp at hx
  | b :: l, 0, x, _, hx, hc => by
    simp only [List.getElem?_cons_zero, Option.some.injEq] at hx
    subst hx
    simp [gl, hc]
  | b :: l, i + 1, x, h, hx, hc => by
    simp only [gl] at h ⊢
    split at h
    · omega
    · rename_i hb
      rw [if_neg hb]
      have := gl_go (l := l) (i := i) (by omega) (by simpa using hx) hc
      omega
theorem gl_stop {l : List UInt8} {i : Nat} {x : UInt8} (h : i ≤ gl l) (hx : l[i]? = some x) (hc : cd x = 0) : i = gl l := by
  rcases Nat.lt_or_ge i (gl l) with h1 | h1
  · exact absurd hc (gl_at h1 hx)
  · omega
theorem tk_eq {α β : Type} {f : α → β} {l : List α} {i : Nat} {x : α} {z : β} (hx : l[i]? = some x) (hz : f x = z) : (l.take i).map f ++ [z] = (l.take (i + 1)).map f := by
  subst hz
  rw [List.take_add_one, List.map_append, hx]
  rfl
theorem tk_all {α β : Type} {f : α → β} {l : List α} {n : Nat} (h : l.length ≤ n) : (l.take n).map f = l.map f := by rw [List.take_of_length_le h]
theorem cd1 {x : UInt8} (h : (x.toNat : Int) = 111) : cd x = 1 := by unfold cd ix; rw [if_pos h]; rfl
theorem cd2 {x : UInt8} (h : (x.toNat : Int) = 108) : cd x = 2 := by unfold cd ix; rw [if_neg (by omega), if_pos h]; rfl
theorem cd3 {x : UInt8} (h : (x.toNat : Int) = 102) : cd x = 3 := by unfold cd ix; rw [if_neg (by omega), if_neg (by omega), if_pos h]; rfl
theorem cd0 {x : UInt8} (h1 : (x.toNat : Int) ≠ 111) (h2 : (x.toNat : Int) ≠ 108) (h3 : (x.toNat : Int) ≠ 102) : cd x = 0 := by unfold cd ix; rw [if_neg h1, if_neg h2, if_neg h3]; rfl
theorem cd_bd (x : UInt8) : 0 ≤ cd x ∧ cd x ≤ 3 := by have := ix_bd (x.toNat : Int); unfold cd; omega
theorem prs_many {l : List UInt8} (h : 2000 < l.length) : prs l = ([], 11) := by unfold prs; rw [if_pos h]
theorem prs_form {l : List UInt8} (h : l.length ≤ 2000) (h2 : gl l < l.length) : prs l = ([], 9) := by unfold prs; rw [if_neg (by omega), if_pos h2]
theorem prs_ok {l : List UInt8} (h : l.length ≤ 2000) (h2 : l.length ≤ gl l) : prs l = (l.map cd, 0) := by unfold prs; rw [if_neg (by omega), if_neg (by omega)]
theorem prs_len (l : List UInt8) : (prs l).1.length ≤ 2000 := by
  unfold prs
  split
  · simp
  · split
    · simp
    · simp; omega

/-- The letter of an answer. -/
def lt (z : Int) : UInt8 := if z = 1 then 111 else if z = 2 then 108 else 102
theorem lt1 {z : Int} (h : z = 1) : lt z = 111 := by subst h; rfl
theorem lt2 {z : Int} (h : z = 2) : lt z = 108 := by subst h; rfl
/-- A source: what Add answers and leaves, what is looked at. -/
def addE (L : List Int) (l : List UInt8) : Int := if (prs l).2 ≠ 0 then (prs l).2 else if 2000 < L.length + (prs l).1.length then 11 else 0
def addL (L : List Int) (l : List UInt8) : List Int := if addE L l = 0 then L ++ (prs l).1 else L
theorem add_err {L : List Int} {l : List UInt8} (h : (prs l).2 ≠ 0) : addE L l = (prs l).2 ∧ addL L l = L := by
  have h1 : addE L l = (prs l).2 := by unfold addE; rw [if_pos h]
  exact ⟨h1, by unfold addL; rw [if_neg (by rw [h1]; exact h)]⟩
theorem add_many {L : List Int} {l : List UInt8} (h : (prs l).2 = 0) (h2 : 2000 < L.length + (prs l).1.length) : addE L l = 11 ∧ addL L l = L := by
  have h1 : addE L l = 11 := by unfold addE; rw [if_neg (by omega), if_pos h2]
  exact ⟨h1, by unfold addL; rw [if_neg (by omega)]⟩
theorem add_ok {L : List Int} {l : List UInt8} (h : (prs l).2 = 0) (h2 : L.length + (prs l).1.length ≤ 2000) : addE L l = 0 ∧ addL L l = L ++ (prs l).1 := by
  have h1 : addE L l = 0 := by unfold addE; rw [if_neg (by omega), if_neg (by omega)]
  exact ⟨h1, by unfold addL; rw [if_pos h1]⟩
theorem addL_len {L : List Int} {l : List UInt8} (h : L.length ≤ 2000) : (addL L l).length ≤ 2000 := by
  by_cases h1 : (prs l).2 = 0
  · rcases Nat.lt_or_ge 2000 (L.length + (prs l).1.length) with h2 | h2
    · rw [(add_many h1 h2).2]; exact h
    · rw [(add_ok h1 h2).2, List.length_append]; exact h2
  · rw [(add_err h1).2]; exact h
theorem hd_tl {L : List Int} {x : Int} (h : L[0]? = some x) : L.headD 1 = x := by
  cases L with
  | nil => simp at h
  | cons y L => simpa using h
theorem tl_drop (L : List Int) : L.drop 1 = L.tail := by simp
end Go.Proofs.YtggfnbpohmhphaaGreatDoor
