/-
  Answers: what AnswerKeeps leans on. No walk in sight.
-/
import Derived.Test.YtjedglbadkbneaaDoorAnsR
namespace Go.Proofs.YtjedglbadkbneaaDoor
theorem lq_len {T : List UInt8} {n : Nat} (h : T.length = n) : (T.map lq).length = n := by simpa using h
/-- Letters, a letter or none, letters. -/
theorem prs_mid {A B : List UInt8} {o : UInt8} (h : A.length + B.length ≤ 1999) : prs ((A.map lq ++ [o]) ++ B.map lq) = if cd o = 0 then ([], 9) else ((an A ++ [cd o]) ++ an B, 0) := by
  have hl : ((A.map lq ++ [o]) ++ B.map lq).length ≤ 2000 := by simp; omega
  by_cases hc : cd o = 0
  · rw [if_pos hc]
    refine prs_form hl ?_
    rcases Nat.lt_or_ge (gl ((A.map lq ++ [o]) ++ B.map lq)) ((A.map lq ++ [o]) ++ B.map lq).length with h1 | h1
    · exact h1
    · exact absurd hc (all_gl h1 o (by simp))
  · rw [if_neg hc]
    have hg : ∀ x ∈ (A.map lq ++ [o]) ++ B.map lq, cd x ≠ 0 := fun x hx => by
      rcases List.mem_append.1 hx with hx | hx
      · rcases List.mem_append.1 hx with hx | hx
        · exact good_lq x hx
        · rw [List.mem_singleton.1 hx]; exact hc
      · exact good_lq x hx
    rw [prs_ok hl (by rw [gl_all hg]; exact Nat.le_refl _)]
    simp [an]
theorem add_mid {L : List Int} {A B : List UInt8} {o : UInt8} {n a b : Nat} (hL : L.length = n) (hA : A.length = a) (hB : B.length = b) (h : n + a + b ≤ 1999) (hc : cd o ≠ 0) :
    addE L ((A.map lq ++ [o]) ++ B.map lq) = 0 ∧ addL L ((A.map lq ++ [o]) ++ B.map lq) = L ++ ((an A ++ [cd o]) ++ an B) := by
  have hp := prs_mid (A := A) (B := B) (o := o) (by omega)
  rw [if_neg hc] at hp
  have := add_ok (L := L) (l := (A.map lq ++ [o]) ++ B.map lq) (by rw [hp]) (by rw [hp]; simp [an]; omega)
  rw [hp] at this
  exact this
theorem add_mid_no {L : List Int} {A B : List UInt8} {o : UInt8} {a b : Nat} (hA : A.length = a) (hB : B.length = b) (h : a + b ≤ 1999) (hc : cd o = 0) :
    addE L ((A.map lq ++ [o]) ++ B.map lq) = 9 ∧ addL L ((A.map lq ++ [o]) ++ B.map lq) = L := by
  have hp := prs_mid (A := A) (B := B) (o := o) (by omega)
  rw [if_pos hc] at hp
  have := add_err (L := L) (l := (A.map lq ++ [o]) ++ B.map lq) (by rw [hp]; decide)
  rw [hp] at this
  exact this
theorem cd_no {x : UInt8} {z : Int} (hz : z = (x.toNat : Int)) (h1 : z ≠ 111) (h2 : z ≠ 108) (h3 : z ≠ 102) : cd x = 0 := cd0 (by omega) (by omega) (by omega)
theorem cd_yes {x : UInt8} {z : Int} (hz : z = (x.toNat : Int)) (h : z = 111 ∨ z = 108 ∨ z = 102) : cd x ≠ 0 := by
  rcases h with h | h | h
  · rw [cd1 (by omega)]; decide
  · rw [cd2 (by omega)]; decide
  · rw [cd3 (by omega)]; decide
/-- The first answers of what begins with the answers of T. -/
theorem an_hd {T : List UInt8} {X : List Int} {i : Nat} {b : UInt8} {q : Nat} (h : T[i]? = some b) (hq : TMod (b.toNat : Int) 3 q) : ((an T ++ X).drop i).headD 1 = (q : Int) + 1 := by
  refine hd_drop ?_
  rw [List.getElem?_append_left (by rw [an_len]; exact (List.getElem?_eq_some_iff.1 h).1)]
  simp [an, h, cd_tmod hq]
theorem an_hd0 {T : List UInt8} {i : Nat} {b : UInt8} {q : Nat} (h : T[i]? = some b) (hq : TMod (b.toNat : Int) 3 q) : ((an T).drop i).headD 1 = (q : Int) + 1 := by
  have := an_hd (X := []) h hq
  rwa [List.append_nil] at this
theorem peek_min {L : List Int} {n : Nat} {z : Int} (h : L.length = n) (hz : 1 ≤ z) : ((pk L z).length : Int) = z ∧ z ≤ n ∨ ((pk L z).length : Int) = n ∧ (n : Int) ≤ z := by
  unfold pk
  rw [List.length_take]
  omega
theorem peek_no {L : List Int} {z : Int} (hz : z ≤ 0) : (pk L z).length = 0 := by rw [pk_lo hz]; rfl
theorem peek3 {L : List Int} {n : Nat} {z : Int} (h : L.length = n) : (z ≤ 0 ∧ (pk L z).length = 0) ∨ (1 ≤ z ∧ ((pk L z).length : Int) = z ∧ z ≤ n) ∨ (1 ≤ z ∧ (pk L z).length = n ∧ (n : Int) ≤ z) := by
  rcases Int.lt_or_le 0 z with h1 | h1
  · rcases peek_min h (show 1 ≤ z by omega) with h2 | h2 <;> omega
  · exact .inl ⟨h1, peek_no h1⟩
theorem u8_eq {a : Int} (hb : (0) ≤ a ∧ a ≤ 255) : a = ((UInt8.ofNat a.toNat).toNat : Int) := by
  have h1 : (UInt8.ofNat a.toNat).toNat = a.toNat := UInt8.toNat_ofNat_of_lt (by show a.toNat < 256; omega)
  rw [h1, Int.toNat_of_nonneg hb.1]
theorem cell_bts {P : Program} {n : Nat} {l : Fr} {o : Oper} {src dst e r m : Nat} {x : Operand} {b : UInt8} (ho : o.op = .convert src dst x) (hs : P.underlying src = some (.slice e)) (he : P.underlying e = some (.int .u8)) (hd : P.underlying dst = some .string)
    (hx : fe n l x = .slice (some ⟨r, 0, none⟩) 1 m) (w : World) (hc : w.cell? ⟨r, 0, none⟩ = some (.int .u8 (b.toNat : Int))) : (execOp (fe n l) o).run P w = .ok (.value (.string (St [b]))) w := by
  have hld : (loadCells ⟨r, 0, none⟩ 1).run P w = .ok (([b].map fun b => (b.toNat : Int)).map (Value.int .u8)).toArray w := by
    have := run_loadCells_list (P := P) w ⟨r, 0, none⟩ [Value.int .u8 (b.toNat : Int)] (fun k v hk => by
      cases k with
      | zero =>
        simp only [List.getElem?_cons_zero, Option.some.injEq] at hk
        rw [← hk]
        exact hc
      | succ k => simp at hk)
    exact this
  have hr := run_bytesToString (P := P) w ⟨r, 0, none⟩ 1 m _ hld
  rw [push_all] at hr
  unfold execOp
  simp [ho, hx, run_convert_bytes_string w src dst e _ 1 m hs he hd, hr]
theorem setI (l : List Int) : ∀ (i : Nat) (z : Int), setL (fl eI l) [(i, Value.int .i64 z)] = fl eI (l.set i z) := by
  induction l with
  | nil => intro i c; simp [fl, setL]
  | cons b l ih =>
    intro i c
    cases i with
    | zero => rfl
    | succ i =>
      have := ih i c
      simp only [setL] at this ⊢
      rw [List.set_cons_succ, fl, fl, ← this]
      rfl
/-- A slice's tail, whatever the slice. -/
theorem gv_from {α : Type} {f : α → List Value} {sz n c k : Nat} {M : List α} {p q : Option Addr} {X : Assn} (E : Enc sz f) (hg : Gv X p n (fl f M)) (hM : M.length = n) (hk : k ≤ n) (hn : n ≤ c) (hq : q = if c = k then p else p.map (fun a : Addr => a.add (k * sz))) : Gv X q (n - k) (fl f (M.drop k)) := by
  intro h ha
  rcases Nat.lt_or_ge k n with h1 | h1
  · rcases hg h ha with ⟨h2, _⟩ | ⟨b, off, h2, h3⟩
    · omega
    · rw [if_neg (by omega), h2] at hq
      refine .inr ⟨b, off + k * sz, by rw [hq]; simp [add_off], fun w hw j v hj => ?_⟩
      rw [← fl_drop E, List.getElem?_drop] at hj
      rw [Nat.add_assoc]
      exact h3 w hw _ v hj
  · refine .inl ⟨by omega, ?_⟩
    rw [List.drop_eq_nil_of_le (by omega)]
    rfl
section
variable {P : Program} {n : Nat} {l : Fr} {o : Oper}
/-- 's[k:]', whatever s. -/
theorem law_sliceFrom {t e m c sz : Nat} {x y : Operand} {p q : Option Addr} (ho : o.op = .slice t x (some y) none none) (ht : P.underlying t = some (.slice e)) (hi : (P.info? e).map (·.size) = some sz) (hx : fe n l x = .slice p m c) {z : Int} (hy : fe n l y = .int .i64 z) (k : Nat) (hz : z = (k : Int)) (hk : k ≤ m) (hq : q = if c = k then p else p.map (fun a : Addr => a.add (k * sz))) (w : World) :
    (execOp (fe n l) o).run P w = .ok (.value (.slice q (m - k) (c - k))) w := by
  subst hz
  subst hq
  cases hi' : P.info? e with
  | none => simp [hi'] at hi
  | some inf =>
    have hs' : inf.size = sz := by simpa [hi'] using hi
    have a1 : ¬ m < k := by omega
    by_cases hc : c = k
    · simp [execOp, ho, hx, hy, Instr.sliceAt, Instr.slice, run_underlying ht, Instr.sliceBounds, Instr.sliceBound, asIntOf, sizeOf, typeInfo, hi', hk, a1, hc]
    · simp [execOp, ho, hx, hy, Instr.sliceAt, Instr.slice, run_underlying ht, Instr.sliceBounds, Instr.sliceBound, asIntOf, sizeOf, typeInfo, hi', hs', hk, a1, hc]
end
end Go.Proofs.YtjedglbadkbneaaDoor
