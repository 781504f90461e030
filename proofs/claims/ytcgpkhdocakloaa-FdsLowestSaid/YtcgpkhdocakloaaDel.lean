/-
  Slices with a third bound; append where there is room; clear over a part of a row. The engine's laws for slices.Delete.
-/
import Derived.Test.YtcgpkhdocakloaaCln
import Derived.Laws.AppendOwn
namespace Go.Proofs.Ytcgpkhdocakloaa
section
variable {P : Program} {Q : Exit → Act → World → Prop} {g w : World} {L : List Assn} {n : Nat} {l : Fr} {o : Oper} {N : Act → World → Prop} {ds : List Deferred}
theorem law_slice3 {t e m c : Nat} {x y z u : Operand} {p : Option Addr} (ho : o.op = .slice t x (some y) (some z) (some u)) (ht : P.underlying t = some (.slice e)) (sz : Nat) (hs : (P.info? e).map (·.size) = some sz) {b off : Nat} (hx : fe n l x = .slice p m c) (hp : p = some ⟨b, off, none⟩)
    {zi zj zq : Int} (hy : fe n l y = .int .i64 zi) (hz : fe n l z = .int .i64 zj) (hu : fe n l u = .int .i64 zq) (i j q : Nat) (hi : zi = (i : Int)) (hj : zj = (j : Int)) (hq : zq = (q : Int)) (h1 : i ≤ j) (h2 : j ≤ q) (h3 : q ≤ c) (off' : Nat) (he : (if q = i then off else off + i * sz) = off') (k c' : Nat) (hk : j - i = k) (hc : q - i = c') (w : World) :
    (execOp (fe n l) o).run P w = .ok (.value (.slice (some ⟨b, off', none⟩) k c')) w := by
  subst hi; subst hj; subst hq; subst he; subst hk; subst hc; subst hp
  cases hq : P.info? e with
  | none => simp [hq] at hs
  | some inf =>
    have hs' : inf.size = sz := by simpa [hq] using hs
    by_cases hm : q = i
    · subst hm
      obtain rfl : j = q := by omega
      simp [execOp, ho, hx, hy, hz, hu, Instr.sliceAt, Instr.slice, run_underlying ht, Instr.sliceBounds, Instr.sliceBound, asIntOf, sizeOf, typeInfo, hq, hs', h3, add_off]
    · simp [execOp, ho, hx, hy, hz, hu, Instr.sliceAt, Instr.slice, run_underlying ht, Instr.sliceBounds, Instr.sliceBound, asIntOf, sizeOf, typeInfo, hq, hs', hm, h1, h2, h3, add_off]
theorem an_append_in {d t e sz : Nat} {s x : Operand} (ho : o.op = .call { callee := .builtin .append, args := #[s, x], argTypes := #[t, t] }) (hd : o.dst = some d) (hn : Nat.blt d n = true)
    (ht : P.underlying t = some (.slice e)) (hi : (P.info? e).map (fun i => i.size) = some sz) {b : Nat} {p : Option Addr} {m c : Nat} {cs : List Value} (hp : p = some ⟨b, 0, none⟩) {i k c2 : Nat} {a : Addr} (hsv : fe n l s = .slice p i c) (hxv : fe n l x = .slice (some a) k c2) (hs : sat g w (Sl e sz p m c cs :: L)) (hm : 0 < m)
    (ys : List Value) (hl : ys.length = k * sz) (hy : ∀ j u, ys[j]? = some u → w.cell? (a.add j) = some u) (h1 : ∀ u ∈ ys, u.oneCell' = true) (him : i + k ≤ m)
    (q : Nat) (hq : i + k = q) (h : ∀ w', sat g w' (Sl e sz p m c (cs.take (i * sz) ++ ys ++ cs.drop (q * sz)) :: L) → N (mkd ds n ((d, .slice p q c) :: l)) w') : OP P o (mkd ds n l) w N Q := by
  refine ⟨?_⟩
  have hle := sl_le hs
  have hlen := sl_len hs
  obtain ⟨b', cur, e1, e2, e3, e4⟩ := sl_open hs hm
  rw [hp] at e1
  simp only [Option.some.injEq, Addr.mk.injEq, and_true] at e1
  subst e1
  have hb : w.heap[b]? = some (.cells cur.toArray e (0, 0)) := sat_at (i := 0) e4 rfl
  have hge : m * sz ≤ cur.length := by rw [e2]; exact Nat.mul_le_mul_right _ hle.1
  have hik : i * sz + ys.length ≤ m * sz := by rw [hl, ← Nat.add_mul]; exact Nat.mul_le_mul_right _ him
  cases hq' : P.info? e with
  | none => simp [hq'] at hi
  | some inf =>
    have hs' : inf.size = sz := by simpa [hq'] using hi
    have hr := run_append_room (P := P) w t o.type e inf ht hq' b i c cur.toArray hb a k c2 ys (by rw [hs']; exact hl) hy h1 (by omega) (by rw [hs', List.size_toArray]; omega)
    unfold Oper.wp
    rw [eval_mk]
    have : (execOp (fe n l) o).run P w = .ok (.value (.slice p (i + k) c)) (w.setRow b (cur.take (i * sz) ++ ys ++ cur.drop (i * sz + ys.length)).toArray) := by
      unfold execOp
      rw [hs'] at hr
      simp only [ho, resolve, invoke, builtin, Sem.run_bind, Sem.run_pure, Result.andThen_ok, List.map_toArray, List.map_cons, List.map_nil, hsv, hxv, hp, hr]
    rw [this, Oper.upon_value, hd, put_mk (by rw [nat_blt] at hn; simpa using hn), hq]
    refine h _ ?_
    rw [hp]
    refine sl_close (cur := cur.take (i * sz) ++ ys ++ cur.drop (i * sz + ys.length)) (sat_put e4 ⟨rfl, rfl, rfl⟩ (setRow_heap w b _ _ e _ hb) (fun j hj => setRow_other w b j _ hj)) ?_ hle.1 hle.2 ?_ ?_
    · have hd' : q * sz = i * sz + ys.length := by rw [hl, ← hq, Nat.add_mul]
      simp only [List.length_append, List.length_take, List.length_drop, hlen, hd']
      omega
    · simp only [List.length_append, List.length_take, List.length_drop]
      omega
    · have hd' : q * sz = i * sz + ys.length := by rw [hl, ← hq, Nat.add_mul]
      rw [← e3, hd', List.take_append, List.take_append, List.length_append, List.length_take, Nat.min_eq_left (by omega), List.take_take, Nat.min_eq_right (by omega), List.take_of_length_le (l := ys) (by omega), List.take_take, Nat.min_eq_left (by omega), List.drop_take]
theorem an_clear {d : Option Nat} {t e sz : Nat} {x : Operand} {z : Value} (ho : o.op = .call { callee := .builtin .clear, args := #[x], argTypes := #[t] }) (hd : o.dst = none)
    (ht : P.underlying t = some (.slice e)) (hi : (P.info? e).map (fun i => (i.zero, i.size)) = some (some z, sz)) (hzs : z.cells.size = sz) {b : Nat} {p : Option Addr} {m c : Nat} {cs : List Value} (hp : p = some ⟨b, 0, none⟩) {i k c2 : Nat} {v : Option Addr} (hxv : fe n l x = .slice v k c2) (hv : 0 < k → v = some ⟨b, i * sz, none⟩) (hs : sat g w (Sl e sz p m c cs :: L)) (hm : 0 < m)
    (h1 : ∀ u ∈ z.cells.toList, u.oneCell' = true) (him : i + k ≤ m)
    (h : ∀ w', sat g w' (Sl e sz p m c (cs.take (i * sz) ++ (Builtin.zeroCells z.cells k).toList ++ cs.drop ((i + k) * sz)) :: L) → N (mkd ds n l) w') : OP P o (mkd ds n l) w N Q := by
  refine ⟨?_⟩
  have hle := sl_le hs
  have hlen := sl_len hs
  obtain ⟨b', cur, e1, e2, e3, e4⟩ := sl_open hs hm
  rw [hp] at e1
  simp only [Option.some.injEq, Addr.mk.injEq, and_true] at e1
  subst e1
  have hb : w.heap[b]? = some (.cells cur.toArray e (0, 0)) := sat_at (i := 0) e4 rfl
  have hge : m * sz ≤ cur.length := by rw [e2]; exact Nat.mul_le_mul_right _ hle.1
  have hzl : (Builtin.zeroCells z.cells k).toList.length = k * sz := by rw [Array.length_toList, size_zeroCells, hzs]
  have hik : i * sz + k * sz ≤ m * sz := by rw [← Nat.add_mul]; exact Nat.mul_le_mul_right _ him
  have hd' : (i + k) * sz = i * sz + k * sz := Nat.add_mul _ _ _
  cases hq' : P.info? e with
  | none => simp [hq'] at hi
  | some inf =>
    simp only [hq', Option.map_some, Option.some.injEq, Prod.mk.injEq] at hi
    unfold Oper.wp
    rw [eval_mk]
    have key : ∃ w', (execOp (fe n l) o).run P w = .ok (.value (.tuple #[])) w' ∧ sat g w' (Cl b (cur.take (i * sz) ++ (Builtin.zeroCells z.cells k).toList ++ cur.drop ((i + k) * sz)) e :: L) := by
      rcases Nat.eq_zero_or_pos k with rfl | hk
      · refine ⟨w, ?_, ?_⟩
        · cases v with
          | none => simp [execOp, ho, resolve, invoke, builtin, hxv, Builtin.clear_, run_underlying ht]
          | some a => simp [execOp, ho, resolve, invoke, builtin, hxv, Builtin.clear_, run_underlying ht]
        · have : (Builtin.zeroCells z.cells 0).toList = [] := List.eq_nil_of_length_eq_zero (by rw [hzl, Nat.zero_mul])
          rw [this, List.append_nil, Nat.add_zero, List.take_append_drop]
          exact e4
      · have hst := run_storeCells_at P b (i * sz) e (Builtin.zeroCells z.cells k).toList 0 cur.toArray w hb (by rw [hzl, List.size_toArray]; omega) (fun u hu => by
          simp only [Builtin.zeroCells, Array.toList_map, List.mem_map] at hu
          obtain ⟨j, hj, rfl⟩ := hu
          have hj2 : j % z.cells.size < z.cells.size := Nat.mod_lt _ (by
            rcases Nat.eq_zero_or_pos z.cells.size with h0 | h0
            · rw [h0] at hj
              simp at hj
            · exact h0)
          rw [getElem!_pos z.cells _ hj2]
          exact h1 _ (by rw [← Array.getElem_toList]; exact List.getElem_mem _))
        simp only [Nat.add_zero, hzl] at hst
        rw [hd']
        refine ⟨w.setRow b (cur.take (i * sz) ++ (Builtin.zeroCells z.cells k).toList ++ cur.drop (i * sz + k * sz)).toArray, ?_, ?_⟩
        rotate_left 1
        · exact sat_put e4 ⟨rfl, rfl, rfl⟩ (setRow_heap w b _ _ e _ hb) (fun j hj => setRow_other w b j _ hj)
        · obtain ⟨k', rfl⟩ : ∃ k', k = k' + 1 := ⟨k - 1, by omega⟩
          simp [execOp, ho, resolve, invoke, builtin, hxv, hv hk, Builtin.clear_, run_underlying ht, zeroValue, typeInfo, hq', hi.1, hst]
    obtain ⟨w', hr, hs'⟩ := key
    rw [hr, Oper.upon_value, hd]
    refine h w' ?_
    rw [hp]
    refine sl_close hs' ?_ hle.1 hle.2 ?_ ?_
    · simp only [List.length_append, List.length_take, List.length_drop, hlen, hzl, hd']
      omega
    · simp only [List.length_append, List.length_take, List.length_drop, hzl, hd']
      omega
    · rw [← e3, hd', List.take_append, List.take_append, List.length_append, List.length_take, Nat.min_eq_left (by omega), List.take_take, Nat.min_eq_right (by omega), hzl, List.take_of_length_le (l := (Builtin.zeroCells z.cells k).toList) (by omega), List.take_take, Nat.min_eq_left (by omega), List.drop_take]
end
/-- A slice's row, seen up to a smaller length. -/
theorem sl_trim {g w : World} {A : List Assn} {e sz : Nat} {p : Option Addr} {m k c : Nat} {cs : List Value} (h : sat g w (Sl e sz p m c cs :: A)) (hk : k ≤ m) (hm : 0 < m) : sat g w (Sl e sz p k c (cs.take (k * sz)) :: A) := by
  have hle := sl_le h
  have hlen := sl_len h
  obtain ⟨b, cur, rfl, e2, e3, e4⟩ := sl_open h hm
  have hkm : k * sz ≤ m * sz := Nat.mul_le_mul_right _ hk
  have hge : m * sz ≤ cur.length := by rw [e2]; exact Nat.mul_le_mul_right _ hle.1
  refine sl_close e4 (by rw [List.length_take, hlen]; omega) (by omega) hle.2 e2 ?_
  rw [← e3, List.take_take, Nat.min_eq_left hkm]
end Go.Proofs.Ytcgpkhdocakloaa
