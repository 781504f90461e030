/-
  Strings and bytes; slices that are only read; made slices; unrolled loops; the parts of strings.Builder. No program in sight.
-/
import Derived.Test.YtfoliffeieeihaaGreatDoorRf
import Derived.Test.YtfoliffeieeihaaGreatDoorLst
import Derived.Laws.BytesString
import Derived.Laws.Concat
import Derived.Laws.MakeOwn
import Derived.Laws.Externs
import Derived.Lib.AppendZeros
import Derived.Lib.Builder
import Derived.Lib.UnsafeStr
namespace Go.Proofs.YtfoliffeieeihaaGreatDoor
variable {ds : List Deferred}

/-- A string, by the list of its bytes. -/
abbrev St (l : List UInt8) : ByteArray := ⟨l.toArray⟩
theorem st_len (l : List UInt8) : ((St l).size : Int) = (l.length : Int) := by
  show ((l.toArray.size : Nat) : Int) = _
  simp
theorem st_app (a b : List UInt8) : St a ++ St b = St (a ++ b) := by
  apply ByteArray.ext
  simp [St]
def eB (b : UInt8) : List Value := [.int .u8 (b.toNat : Int)]
theorem eB_ok : Enc 1 eB := ⟨fun _ => rfl, fun x v hv => by simp [eB] at hv; subst hv; rfl⟩
theorem u8_lt (b : UInt8) : ((b.toNat : Nat) : Int) ≤ 255 := by have := b.toNat_lt; omega
theorem u8_of (b : UInt8) : UInt8.ofNat ((b.toNat : Int)).toNat = b := by simp
theorem fl_map1 {α : Type} (f : α → Value) (l : List α) : fl (fun x => [f x]) l = l.map f := by
  induction l with
  | nil => rfl
  | cons x l ih => simp [fl, ih]
theorem fl_eB (l : List UInt8) : fl eB l = (l.map fun b => (b.toNat : Int)).map (Value.int .u8) := by
  rw [show eB = fun b : UInt8 => [Value.int .u8 (b.toNat : Int)] from rfl, fl_map1, List.map_map]
  rfl
theorem push_all (l : List UInt8) : ∀ s : ByteArray, (l.map fun b => (b.toNat : Int)).foldl (fun r n => r.push (UInt8.ofNat n.toNat)) s = s ++ St l := by
  induction l with
  | nil => intro s; apply ByteArray.ext; simp [St]
  | cons b l ih =>
    intro s
    rw [List.map_cons, List.foldl_cons, ih, u8_of]
    apply ByteArray.ext
    simp [St, ByteArray.push]

section
variable {P : Program} {Q : Exit → Act → World → Prop} {g w : World} {L : List Assn} {n : Nat} {l : Fr} {o : Oper} {N : Act → World → Prop}

/-- 's[i]' of a string. -/
theorem law_idxStr {t : Nat} {x i : Operand} {k : IntKind} {s : List UInt8} {z : Int} {b : UInt8} (ho : o.op = .index t x i) (ht : P.underlying t = some .string) (hx : fe n l x = .string (St s)) (hi : fe n l i = .int k z) (j : Nat) (hz : z = (j : Int)) (hb : s[j]? = some b) (w : World) :
    (execOp (fe n l) o).run P w = .ok (.value (.int .u8 (b.toNat : Int))) w := by
  subst hz
  have h0 : (0 : Int) ≤ (j : Int) := by omega
  have hj := (List.getElem?_eq_some_iff.1 hb).1
  have hg : (St s)[j]? = some b := by
    have : j < (St s).size := by show j < s.toArray.size; simpa using hj
    rw [getElem?_pos (St s) j this]
    have := (List.getElem?_eq_some_iff.1 hb).2
    show some (s.toArray[j]'(by simpa using hj)) = _
    simp [this]
  simp [execOp, ho, hx, hi, Instr.index, asIntOf, run_underlying ht, h0, hg]
theorem law_eqStr {t : Nat} {x y : Operand} {a b : List UInt8} (ho : o.op = .binOp .eql t x y t) (hx : fe n l x = .string (St a)) (hy : fe n l y = .string (St b)) (r : Bool) (h : decide (a = b) = r) (w : World) :
    (execOp (fe n l) o).run P w = .ok (.value (.bool r)) w := by
  subst h
  have : (a == b) = decide (a = b) := by by_cases e : a = b <;> simp [e]
  simp [execOp, ho, hx, hy, go_sem, this]
theorem law_neStr {t : Nat} {x y : Operand} {a b : List UInt8} (ho : o.op = .binOp .neq t x y t) (hx : fe n l x = .string (St a)) (hy : fe n l y = .string (St b)) (r : Bool) (h : decide (a = b) = !r) (w : World) :
    (execOp (fe n l) o).run P w = .ok (.value (.bool r)) w := by
  have : (a == b) = !r := by rw [← h]; by_cases e : a = b <;> simp [e]
  simp [execOp, ho, hx, hy, go_sem, this]
theorem law_catStr {t : Nat} {x y : Operand} {a b : List UInt8} (ho : o.op = .binOp .add t x y t) (hx : fe n l x = .string (St a)) (hy : fe n l y = .string (St b)) (h : a.length + b.length ≤ 9223372036854775807) (w : World) :
    (execOp (fe n l) o).run P w = .ok (.value (.string (St (a ++ b)))) w := by
  have h1 := run_string_add_sum (P := P) (w := w) (St a) (St b) (by have := st_len a; have := st_len b; omega)
  simp [execOp, ho, hx, hy, eqGuard_add, binOp_string_add, h1, st_app]

/-- 'string(b)' of a slice of bytes. -/
theorem law_bts {src dst e : Nat} {x : Operand} (ho : o.op = .convert src dst x) (hs : P.underlying src = some (.slice e)) (he : P.underlying e = some (.int .u8)) (hd : P.underlying dst = some .string)
    {p : Option Addr} {m c : Nat} {s : List UInt8} (hx : fe n l x = .slice p m c) {A : Assn} (j : Nat) (h : sat g w L) (hj : L[j]? = some A) (hg : Gv A p m (fl eB s)) (hl : s.length = m) :
    (execOp (fe n l) o).run P w = .ok (.value (.string (St s))) w := by
  have hr : (Conv.bytesToString (.slice p m c)).run P w = .ok (.string (St s)) w := by
    cases p with
    | none =>
      have : m = 0 := by
        rcases Nat.eq_zero_or_pos m with h0 | h0
        · exact h0
        · obtain ⟨_, _, h1⟩ := gv_ptr h hj hg h0
          cases h1
      subst this
      rw [List.eq_nil_of_length_eq_zero hl]
      rfl
    | some a =>
      have hld : (loadCells a m).run P w = .ok ((s.map fun b => (b.toNat : Int)).map (Value.int .u8)).toArray w := by
        have hlen : (fl eB s).length = m := by rw [fl_len eB_ok, hl, Nat.mul_one]
        rw [← fl_eB]
        have := run_loadCells_list (P := P) w a (fl eB s) (fun k v hk => by
          have hm : 0 < m := by have := (List.getElem?_eq_some_iff.1 hk).1; omega
          obtain ⟨b, off, hp⟩ := gv_ptr h hj hg hm
          simp only [Option.some.injEq] at hp
          subst hp
          rw [add_off]
          exact gv_cell h hj hg rfl hk _ rfl)
        rw [hlen] at this
        exact this
      rw [run_bytesToString w a m c _ hld, push_all]
      congr 2
  unfold execOp
  simp [ho, hx, run_convert_bytes_string w src dst e p m c hs he hd, hr]

/-! ### Unrolled loops -/
def Un (r : Option Nat) (P : Program) (x : Code) (Q : Exit → Act → World → Prop) : Nat → Act → World → Prop
  | 0, _, _ => False
  | k + 1, a, w => WP r P x (Exit.then (Un r P x Q k) Q) a w
theorem gi_unr {r : Option Nat} {x c : Code} {a : Act} (k : Nat) (e : c = .loop x) (h : Un r P x Q k a w) : WP r P c Q a w := by
  refine gi_lp e (fun k a w => Un r P x Q k a w) k h fun k a w hk => ?_
  cases k with
  | zero => exact hk.elim
  | succ k =>
    refine WP.mono hk fun e a w h => ?_
    cases e with
    | normal => exact ⟨k, Nat.lt_succ_self _, h⟩
    | _ => exact h

/-! ### strings.Builder's parts -/
theorem law_nePtrSame {t te : Nat} {x y : Operand} {a : Addr} (ho : o.op = .binOp .neq t x y t) (ht : P.underlying t = some (.pointer te)) (hi : (P.info? te).isSome = true) (hx : fe n l x = .pointer (some a)) (hy : fe n l y = .pointer (some a)) (w : World) :
    (execOp (fe n l) o).run P w = .ok (.value (.bool false)) w := by
  cases hq : P.info? te with
  | none => simp [hq] at hi
  | some j =>
    have := Lib.run_neq_ptr_same (P := P) w a ht hq
    have hg : eqGuard .neq t x y (.pointer (some a)) (.pointer (some a)) = pure () := rfl
    unfold execOp
    simp [ho, hx, hy, hg, this]
theorem law_toUnsafe {s d t e b : Nat} {x : Operand} {cs : List Value} (ho : o.op = .convert s d x) (hs : P.underlying s = some (.pointer t)) (hd : P.underlying d = some .unsafePointer) (hi : (P.info? t).map (fun i => Nat.beq i.size 0) = some false)
    (hx : fe n l x = .pointer (some ⟨b, 0, none⟩)) (j : Nat) (h : sat g w L) (hj : L[j]? = some (Cl b cs e)) (hc : 0 < cs.length) : (execOp (fe n l) o).run P w = .ok (.value (.pointer (some ⟨b, 0, none⟩))) w := by
  have hb : w.heap[b]? = some (.cells cs.toArray e (0, 0)) := sat_at h hj
  have hsh : w.shape? b = some (e, cs.length) := by simp [World.shape?, hb]
  cases hq : P.info? t with
  | none => simp [hq] at hi
  | some i =>
    have hi' : i.size ≠ 0 := by
      simp [hq] at hi
      intro e0
      rw [e0] at hi
      cases hi
    have := Lib.run_to_unsafe (P := P) w ⟨b, 0, none⟩ hs hd hq hi' hsh hc
    unfold execOp
    simp [ho, hx, this]
theorem law_fromUnsafe {s d u e b : Nat} {x : Operand} {cs : List Value} (ho : o.op = .convert s d x) (hs : P.underlying s = some .unsafePointer) (hd : P.underlying d = some (.pointer u)) (hi : (P.info? u).isSome = true)
    (hx : fe n l x = .pointer (some ⟨b, 0, none⟩)) (j : Nat) (h : sat g w L) (hj : L[j]? = some (Cl b cs e)) (hl : liesAt P P.depth e (cs.length / P.cellsOf e) 0 u 1 = true) : (execOp (fe n l) o).run P w = .ok (.value (.pointer (some ⟨b, 0, none⟩))) w := by
  have hb : w.heap[b]? = some (.cells cs.toArray e (0, 0)) := sat_at h hj
  have hsh : w.shape? b = some (e, cs.length) := by simp [World.shape?, hb]
  cases hq : P.info? u with
  | none => simp [hq] at hi
  | some i =>
    have := Lib.run_from_unsafe (P := P) w ⟨b, 0, none⟩ hs hd hq hsh hl
    unfold execOp
    simp [ho, hx, this]
/-- A call of internal/abi.NoEscape. -/
theorem an_noEscape {d f : Nat} {v : Value} (h : chkCall o n l = some (some d, f, [v])) (hn : Nat.blt d n = true) (hr : (callFunc f #[v]).run P w = .ok (.value v) w) (k : N (mkd ds n ((d, v) :: l)) w) : OP P o (mkd ds n l) w N Q := by
  refine ⟨?_⟩
  obtain ⟨dst, op, ty, pos, aft, gd⟩ := o
  unfold chkCall at h
  dsimp only at h
  split at h
  · rename_i x xs tys
    split at h
    · rename_i f' first captured hx
      simp only [Option.some.injEq, Prod.mk.injEq] at h
      obtain ⟨rfl, rfl, hv⟩ := h
      unfold Oper.wp
      rw [eval_mk]
      have e1 : (execOp (fe n l) { dst := some d, op := .call { callee := .value x, args := xs, argTypes := tys }, type := ty, pos := pos, after := aft, guard := gd }) = callFunc f' ((first ++ xs.map (fe n l)) ++ captured) := by
        simp only [execOp, resolve, hx, Deferred.ofValue]
        rfl
      have e2 : ((first ++ xs.map (fe n l)) ++ captured) = #[v] := by
        apply Array.ext'
        simpa using hv
      rw [e1, e2, hr, Oper.upon_value]
      show N ((mkd ds n l).put (some d) v) w
      rw [put_mk (by rw [nat_blt] at hn; simpa using hn)]
      exact k
    · cases h
  · cases h
/-- 'unsafe.String(unsafe.SliceData(b), len(b))' of an owned row: two operations; behind the second the row may not be written, so it is given up. -/
theorem an_sliceData {d t e sz : Nat} {x : Operand} {p : Option Addr} {m c : Nat} {cs : List Value} (ho : o.op = .call { callee := .builtin .unsafeSliceData, args := #[x], argTypes := #[t] }) (hd : o.dst = some d) (hn : Nat.blt d n = true)
    (hx : fe n l x = .slice p m c) (hs : sat g w (Sl e sz p m c cs :: L)) (h0 : m = 0 → p = none) (h : N (mkd ds n ((d, .pointer p) :: l)) w) : OP P o (mkd ds n l) w N Q := by
  refine ⟨?_⟩
  have hr : (Builtin.unsafeSliceData_ #[t] o.type #[.slice p m c]).run P w = .ok (.pointer p) w := by
    cases p with
    | none => exact Lib.run_unsafeSliceData_nil w _ _ _ _
    | some a =>
      have hc := (sl_le hs).1
      have hm : m ≠ 0 := fun e => by cases h0 e
      exact Lib.run_unsafeSliceData_row w _ _ a m c (by omega)
  unfold Oper.wp
  rw [eval_mk]
  have : (execOp (fe n l) o).run P w = .ok (.value (.pointer p)) w := by
    unfold execOp
    simp only [ho, resolve, invoke, builtin, Sem.run_bind, Sem.run_pure, Result.andThen_ok, List.map_toArray, List.map_cons, List.map_nil, hx, hr]
  rw [this, Oper.upon_value, hd, put_mk (by rw [nat_blt] at hn; simpa using hn)]
  exact h
theorem an_unsafeString {d t1 t2 e : Nat} {x y : Operand} {p : Option Addr} {m c : Nat} {s : List UInt8} {z : Int} (ho : o.op = .call { callee := .builtin .unsafeString, args := #[x, y], argTypes := #[t1, t2] }) (hd : o.dst = some d) (hn : Nat.blt d n = true)
    (hp : P.underlying t1 = some (.pointer e)) (hc : P.cellsOf e = 1) (hx : fe n l x = .pointer p) (hy : fe n l y = .int .i64 z) (hz : z = (m : Int)) (hs : sat g w (Sl e 1 p m c (fl eB s) :: L)) (hl : s.length = m) (hm : m ≤ 9223372036854775807)
    (h : ∀ w', sat g w' L → N (mkd ds n ((d, .string (St s)) :: l)) w') : OP P o (mkd ds n l) w N Q := by
  refine ⟨?_⟩
  subst hz
  subst hl
  obtain ⟨w', hr, hs'⟩ : ∃ w', (Builtin.unsafeString_ #[t1, t2] o.type #[.pointer p, .int .i64 (s.length : Int)]).run P w = .ok (.string (St s)) w' ∧ sat g w' L := by
    rcases Nat.eq_zero_or_pos s.length with h0 | h0
    · have := List.eq_nil_of_length_eq_zero h0
      subst this
      exact ⟨w, Lib.run_unsafeString_none w t1 t2 o.type p, sat_sel_tail hs⟩
    · have hle := sl_le hs
      obtain ⟨b, cur, rfl, h1, h2, h3⟩ := sl_open hs h0
      have hb : w.heap[b]? = some (.cells cur.toArray e (0, 0)) := sat_at (i := 0) h3 rfl
      have hsh : w.shape? b = some (e, cur.length) := by simp [World.shape?, hb]
      have hne : s ≠ [] := fun e => by rw [e] at h0; cases h0
      have hr := Lib.run_unsafeString_row (P := P) w t1 t2 o.type e hp hc b cur.length hsh s hne (by omega) hm (fun j x hj => by
        rw [add_off, Nat.zero_add]
        refine cell_of_heap hb ?_
        have hj' : j < s.length * 1 := by have := (List.getElem?_eq_some_iff.1 hj).1; omega
        rw [take_at h2 hj', fl_eB, List.getElem?_map, List.getElem?_map, hj]
        rfl)
      refine ⟨_, hr, sat_sel_tail (sat_put (w' := w.freeze ⟨b, 0, none⟩ s.length) (o' := .cells cur.toArray e (if (0 : Nat) == 0 then (0, 0 + s.length) else (min 0 0, max 0 (0 + s.length)))) h3 ?_ ?_ ?_)⟩
      · unfold World.freeze
        rw [if_neg (by omega)]
        exact ⟨rfl, rfl, rfl, Nat.le_refl _⟩
      · unfold World.freeze
        rw [if_neg (by omega)]
        simp only [Array.getElem?_modify, if_pos, hb, Option.map_some]
      · intro k hk
        unfold World.freeze
        rw [if_neg (by omega)]
        simp only [Array.getElem?_modify]
        rw [if_neg (fun e => hk e.symm)]
  unfold Oper.wp
  rw [eval_mk]
  have : (execOp (fe n l) o).run P w = .ok (.value (.string (St s))) w' := by
    unfold execOp
    simp only [ho, resolve, invoke, builtin, Sem.run_bind, Sem.run_pure, Result.andThen_ok, List.map_toArray, List.map_cons, List.map_nil, hx, hy, hr]
  rw [this, Oper.upon_value, hd, put_mk (by rw [nat_blt] at hn; simpa using hn)]
  exact h w' hs'
end

/-! ### Slices that are only read -/
/-- The cells behind a slice, wherever in its block it begins. -/
def Vw (e sz : Nat) (p : Option Addr) (n c : Nat) (cs : List Value) : Assn := fun h =>
  cs.length = n * sz ∧ n ≤ c ∧ c ≤ 9223372036854775807 ∧ (p = none → c = 0) ∧ ((n = 0 ∧ cs = []) ∨ ∃ b off cur, p = some ⟨b, off, none⟩ ∧ Cl b cur e h ∧ ∀ k v, cs[k]? = some v → cur[off + k]? = some v)
section
variable {g w : World} {L : List Assn} {e sz : Nat} {p : Option Addr} {n c : Nat} {cs : List Value}
/-- The head of what an assertion gives. -/
theorem gv_take {A : Assn} {k : Nat} (hg : Gv A p n cs) (hk : k ≤ n) : Gv A p k (cs.take (k * sz)) := by
  intro h ha
  rcases Nat.eq_zero_or_pos k with h0 | h0
  · exact .inl ⟨h0, by rw [h0, Nat.zero_mul]; rfl⟩
  · rcases hg h ha with ⟨h1, _⟩ | ⟨b, off, h1, h2⟩
    · omega
    · refine .inr ⟨b, off, h1, fun w hw j v hj => h2 w hw j v ?_⟩
      rw [List.getElem?_take] at hj
      split at hj
      · exact hj
      · cases hj
end
theorem gv_list {α : Type} {f : α → List Value} {sz n k : Nat} {M : List α} {p : Option Addr} {X : Assn} (E : Enc sz f) (hg : Gv X p n (fl f M)) (hk : k ≤ n) : Gv X p k (fl f (M.take k)) := by
  rw [← fl_take E]
  exact gv_take hg hk
section
variable {P : Program} {n : Nat} {l : Fr} {o : Oper}
/-- 's[:k]', whatever s. -/
theorem law_sliceTo {t e m c : Nat} {x y : Operand} {p : Option Addr} (ho : o.op = .slice t x none (some y) none) (ht : P.underlying t = some (.slice e)) (hi : (P.info? e).isSome = true) (hx : fe n l x = .slice p m c) {z : Int} (hy : fe n l y = .int .i64 z) (k : Nat) (hz : z = (k : Int)) (hk : k ≤ c) (w : World) :
    (execOp (fe n l) o).run P w = .ok (.value (.slice p k c)) w := by
  subst hz
  cases hq : P.info? e with
  | none => simp [hq] at hi
  | some inf =>
    have a2 : ¬ c < k := by omega
    have ha : p.map (fun a : Addr => a.add (0 * inf.size)) = p := by
      cases p with
      | none => rfl
      | some a => simp [Addr.add]
    by_cases hm : c = 0
    · have : k = 0 := by omega
      subst this
      simp [execOp, ho, hx, hy, Instr.sliceAt, Instr.slice, run_underlying ht, Instr.sliceBounds, Instr.sliceBound, asIntOf, sizeOf, typeInfo, hq, hm]
    · have ha2 : p.map (fun a : Addr => a.add 0) = p := by simpa using ha
      simp [execOp, ho, hx, hy, Instr.sliceAt, Instr.slice, run_underlying ht, Instr.sliceBounds, Instr.sliceBound, asIntOf, sizeOf, typeInfo, hq, hk, a2, hm, ha2]
end
end Go.Proofs.YtfoliffeieeihaaGreatDoor
