/-
  Strings and bytes; slices that are only read; made slices; unrolled loops; the parts of strings.Builder. No program in sight.
-/
import Derived.Test.YtjjpmehiolejgaaGreatRf
import Derived.Test.YtjjpmehiolejgaaGreatLst
import Derived.Laws.BytesString
import Derived.Laws.Concat
import Derived.Laws.MakeOwn
import Derived.Laws.Externs
import Derived.Lib.AppendZeros
import Derived.Lib.Builder
import Derived.Lib.UnsafeStr
namespace Go.Proofs.YtjjpmehiolejgaaGreat
variable {ds : List Deferred}

/-- A string, by the list of its bytes. -/
abbrev St (l : List UInt8) : ByteArray := ⟨l.toArray⟩
theorem st_len (l : List UInt8) : ((St l).size : Int) = (l.length : Int) := by
  show ((l.toArray.size : Nat) : Int) = _
  simp
def eI (z : Int) : List Value := [.int .i64 z]
theorem eI_ok : Enc 1 eI := ⟨fun _ => rfl, fun x v hv => by simp [eI] at hv; subst hv; rfl⟩
section
variable {P : Program} {Q : Exit → Act → World → Prop} {g w : World} {L : List Assn} {n : Nat} {l : Fr} {o : Oper} {N : Act → World → Prop}

/-- 's[i]' of a string. -/
theorem law_idxStr {t : Nat} {x i : Operand} {k : IntKind} {s : List UInt8} {z : Int} {b : UInt8} (ho : o.op = .index t x i) (ht : P.underlying t = some .string) (hx : fe n l x = .string (St s)) (hi : fe n l i = .int k z) (j : Nat) (hz : z = (j : Int)) (hb : s[j]? = some b) (w : World) :
    (execOp (fe n l) o).run P w = .ok (.value (.int .u8 (b.toNat : Int))) w := by
  subst hz
  have h0 : (0 : Int) ≤ (j : Int) := by omega
  have hj := (List.getElem?_eq_some_iff.1 hb).1
  have hg : (St s)[j]? = some b := by
    have : j < (St s).size := by show j < s.toArray.size; simpa using hj
    rw [getElem?_pos (St s) j this]
    have := (List.getElem?_eq_some_iff.1 hb).2
    show some (s.toArray[j]'(by simpa using hj)) = _
    simp [this]
  simp [execOp, ho, hx, hi, Instr.index, asIntOf, run_underlying ht, h0, hg]
theorem law_eqStr {t : Nat} {x y : Operand} {a b : List UInt8} (ho : o.op = .binOp .eql t x y t) (hx : fe n l x = .string (St a)) (hy : fe n l y = .string (St b)) (r : Bool) (h : decide (a = b) = r) (w : World) :
    (execOp (fe n l) o).run P w = .ok (.value (.bool r)) w := by
  subst h
  have : (a == b) = decide (a = b) := by by_cases e : a = b <;> simp [e]
  simp [execOp, ho, hx, hy, go_sem, this]
theorem law_neStr {t : Nat} {x y : Operand} {a b : List UInt8} (ho : o.op = .binOp .neq t x y t) (hx : fe n l x = .string (St a)) (hy : fe n l y = .string (St b)) (r : Bool) (h : decide (a = b) = !r) (w : World) :
    (execOp (fe n l) o).run P w = .ok (.value (.bool r)) w := by
  have : (a == b) = !r := by rw [← h]; by_cases e : a = b <;> simp [e]
  simp [execOp, ho, hx, hy, go_sem, this]
/-! ### Unrolled loops -/
def Un (r : Option Nat) (P : Program) (x : Code) (Q : Exit → Act → World → Prop) : Nat → Act → World → Prop
  | 0, _, _ => False
  | k + 1, a, w => WP r P x (Exit.then (Un r P x Q k) Q) a w
theorem gi_unr {r : Option Nat} {x c : Code} {a : Act} (k : Nat) (e : c = .loop x) (h : Un r P x Q k a w) : WP r P c Q a w := by
  refine gi_lp e (fun k a w => Un r P x Q k a w) k h fun k a w hk => ?_
  cases k with
  | zero => exact hk.elim
  | succ k =>
    refine WP.mono hk fun e a w h => ?_
    cases e with
    | normal => exact ⟨k, Nat.lt_succ_self _, h⟩
    | _ => exact h

/-! ### strings.Builder's parts -/
theorem law_nePtrSame {t te : Nat} {x y : Operand} {a : Addr} (ho : o.op = .binOp .neq t x y t) (ht : P.underlying t = some (.pointer te)) (hi : (P.info? te).isSome = true) (hx : fe n l x = .pointer (some a)) (hy : fe n l y = .pointer (some a)) (w : World) :
    (execOp (fe n l) o).run P w = .ok (.value (.bool false)) w := by
  cases hq : P.info? te with
  | none => simp [hq] at hi
  | some j =>
    have := Lib.run_neq_ptr_same (P := P) w a ht hq
    have hg : eqGuard .neq t x y (.pointer (some a)) (.pointer (some a)) = pure () := rfl
    unfold execOp
    simp [ho, hx, hy, hg, this]
end

/-! ### Slices that are only read -/
/-- The cells behind a slice, wherever in its block it begins. -/
def Vw (e sz : Nat) (p : Option Addr) (n c : Nat) (cs : List Value) : Assn := fun h =>
  cs.length = n * sz ∧ n ≤ c ∧ c ≤ 9223372036854775807 ∧ (p = none → c = 0) ∧ ((n = 0 ∧ cs = []) ∨ ∃ b off cur, p = some ⟨b, off, none⟩ ∧ Cl b cur e h ∧ ∀ k v, cs[k]? = some v → cur[off + k]? = some v)
section
variable {g w : World} {L : List Assn} {e sz : Nat} {p : Option Addr} {n c : Nat} {cs : List Value}
/-- The head of what an assertion gives. -/
theorem gv_take {A : Assn} {k : Nat} (hg : Gv A p n cs) (hk : k ≤ n) : Gv A p k (cs.take (k * sz)) := by
  intro h ha
  rcases Nat.eq_zero_or_pos k with h0 | h0
  · exact .inl ⟨h0, by rw [h0, Nat.zero_mul]; rfl⟩
  · rcases hg h ha with ⟨h1, _⟩ | ⟨b, off, h1, h2⟩
    · omega
    · refine .inr ⟨b, off, h1, fun w hw j v hj => h2 w hw j v ?_⟩
      rw [List.getElem?_take] at hj
      split at hj
      · exact hj
      · cases hj
end
theorem gv_list {α : Type} {f : α → List Value} {sz n k : Nat} {M : List α} {p : Option Addr} {X : Assn} (E : Enc sz f) (hg : Gv X p n (fl f M)) (hk : k ≤ n) : Gv X p k (fl f (M.take k)) := by
  rw [← fl_take E]
  exact gv_take hg hk
section
variable {P : Program} {n : Nat} {l : Fr} {o : Oper}
theorem law_neBool {t : Nat} {x y : Operand} (a b r : Bool) (ho : o.op = .binOp .neq t x y t) (ht : P.underlying t = some .bool) (hx : fe n l x = .bool a) (hy : fe n l y = .bool b) (h : (a == b) = !r) (w : World) :
    (execOp (fe n l) o).run P w = .ok (.value (.bool r)) w := by
  have hg : eqGuard .neq t x y (.bool a) (.bool b) = pure () := rfl
  have h0 : ∀ d : Nat, (Op.equalIn (d + 1) t (.bool a) (.bool b)).run P w = .ok (a == b) w := fun d => by simp [Op.equalIn, run_underlying ht]
  have h1 : (binOp .neq t (.bool a) (.bool b)).run P w = .ok (.bool r) w := by
    simp only [binOp]
    simp [Op.equal, Op.maxDepth, h0 9999, h]
  simp [execOp, ho, hx, hy, hg, h1]
/-- A slice that is not nil, against nil. -/
theorem law_sliceSome {t e m c : Nat} {x y : Operand} {p : Option Addr} {a : Addr} (ho : o.op = .binOp .eql t x y t) (ht : P.underlying t = some (.slice e)) (hx : fe n l x = .slice p m c) (hp : p = some a) (hy : fe n l y = .slice none 0 0) (w : World) :
    (execOp (fe n l) o).run P w = .ok (.value (.bool false)) w := by
  subst hp
  have hg : eqGuard .eql t x y (.slice (some a) m c) (.slice none 0 0) = pure () := rfl
  have h1 : (binOp .eql t (.slice (some a) m c) (.slice none 0 0)).run P w = .ok (.bool false) w := by
    have h : ∀ d : Nat, (Op.equalIn (d + 1) t (.slice (some a) m c) (.slice none 0 0)).run P w = .ok false w := fun d => by simp [Op.equalIn, run_underlying ht]
    simp only [binOp]
    simp [Op.equal, Op.maxDepth, h 9999]
  simp [execOp, ho, hx, hy, hg, h1]
/-- 's[:k]', whatever s. -/
theorem law_sliceTo {t e m c : Nat} {x y : Operand} {p : Option Addr} (ho : o.op = .slice t x none (some y) none) (ht : P.underlying t = some (.slice e)) (hi : (P.info? e).isSome = true) (hx : fe n l x = .slice p m c) {z : Int} (hy : fe n l y = .int .i64 z) (k : Nat) (hz : z = (k : Int)) (hk : k ≤ c) (w : World) :
    (execOp (fe n l) o).run P w = .ok (.value (.slice p k c)) w := by
  subst hz
  cases hq : P.info? e with
  | none => simp [hq] at hi
  | some inf =>
    have a2 : ¬ c < k := by omega
    have ha : p.map (fun a : Addr => a.add (0 * inf.size)) = p := by
      cases p with
      | none => rfl
      | some a => simp [Addr.add]
    by_cases hm : c = 0
    · have : k = 0 := by omega
      subst this
      simp [execOp, ho, hx, hy, Instr.sliceAt, Instr.slice, run_underlying ht, Instr.sliceBounds, Instr.sliceBound, asIntOf, sizeOf, typeInfo, hq, hm]
    · have ha2 : p.map (fun a : Addr => a.add 0) = p := by simpa using ha
      simp [execOp, ho, hx, hy, Instr.sliceAt, Instr.slice, run_underlying ht, Instr.sliceBounds, Instr.sliceBound, asIntOf, sizeOf, typeInfo, hq, hk, a2, hm, ha2]
end
end Go.Proofs.YtjjpmehiolejgaaGreat
