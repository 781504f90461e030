/-
  append(b, s...), s a string: the engine's law. No program in sight.
-/
import Derived.Test.YtfoliffeieeihaaGreatDoorRn2
import Derived.Lib.AppendStr
namespace Go.Proofs.YtfoliffeieeihaaGreatDoor
open Go.Lib
variable {P : Program} {Q : Exit → Act → World → Prop} {g w : World} {L : List Assn} {n : Nat} {l : Fr} {o : Oper} {N : Act → World → Prop} {ds : List Deferred}
theorem str_fl (l : List UInt8) : strCells (St l) = fl eB l := by
  have h : ∀ l : List UInt8, (l.map fun b => Value.int .u8 b.toNat) = fl eB l := fun l => by
    induction l with
    | nil => rfl
    | cons b l ih => rw [List.map_cons, ih]; rfl
  exact h l
theorem an_append_str {d t u e : Nat} {s x : Operand} (ho : o.op = .call { callee := .builtin .append, args := #[s, x], argTypes := #[t, u] }) (hd : o.dst = some d) (hn : Nat.blt d n = true)
    (ht : P.underlying t = some (.slice e)) (hu : P.underlying u = some .string) (hi : (P.info? e).map (fun i => (i.zero, i.size, i.bytes)) = some (some (.int .u8 0), 1, 1))
    {p : Option Addr} {m c : Nat} {l0 l2 : List UInt8} (hsv : fe n l s = .slice p m c) (hxv : fe n l x = .string (St l2)) (hs : sat g w (Sl e 1 p m c (fl eB l0) :: L))
    (hby : m + l2.length ≤ 140737488355328) (q : Nat) (hmk : m + l2.length = q) (h : ∀ p' c' w', sat g w' (Sl e 1 p' q c' (fl eB (l0 ++ l2)) :: L) → N (mkd ds n ((d, .slice p' q c') :: l)) w') : OP P o (mkd ds n l) w N Q := by
  refine ⟨?_⟩
  subst hmk
  have hz : (St l2).size = l2.length := by show l2.toArray.size = _; simp
  cases hq : P.info? e with
  | none => simp [hq] at hi
  | some i =>
    simp only [hq, Option.map_some, Option.some.injEq, Prod.mk.injEq] at hi
    have hown := ownsRow_of_sl hs
    obtain ⟨v', w', hr, h2, h3, h4⟩ := run_append_own_string (P := P) w 0 t u o.type e i ht hu hq hi.1 hi.2.1 hi.2.2 (.slice p m c) m (fl eB l0) hown (St l2) (by unfold maxLen; omega) (by omega) (Nat.zero_le _)
    have hb : v'.ownBlock = (Value.slice p m c).ownBlock ∨ v'.ownBlock = some w.heap.size := by
      rcases hown.2 with ⟨e1, e2⟩ | ⟨b, cap, cur, e1, hbg, hg, hnc, hcm, hcs, htake⟩
      · obtain ⟨rfl, rfl, rfl⟩ := Value.slice.inj e1
        by_cases hm : (St l2).size = 0
        · exact .inl (by rw [h4.2 ⟨rfl, hm⟩])
        · have hr2 := run_append_nil_string (P := P) w t u o.type e i (.int .u8 0) ht hu hq hi.1 (St l2) (by omega) (by omega) (by rw [hi.2.2]; omega)
          rw [hr] at hr2
          obtain ⟨rfl, rfl⟩ := Result.ok.inj hr2
          exact .inr rfl
      · obtain ⟨e3, _, e4⟩ := Value.slice.inj e1
        subst e3
        subst e4
        by_cases hroom : m + (St l2).size ≤ c
        · have hr2 := run_append_room_string (P := P) w t u o.type e i ht hu hq hi.2.1 b m c cur hg (St l2) hroom (by omega)
          rw [hr] at hr2
          obtain ⟨rfl, rfl⟩ := Result.ok.inj hr2
          exact .inl rfl
        · have holds : ∀ j u, (fl eB l0)[j]? = some u → w.cell? ((⟨b, 0, none⟩ : Addr).add j) = some u := hown.cells (g := b) rfl
          have hr2 := run_append_grow_string (P := P) w t u o.type e i (.int .u8 0) ht hu hq hi.1 ⟨b, 0, none⟩ m c (fl eB l0) (by rw [hi.2.1]; exact hown.1) holds (St l2) (by omega) (by omega) (by rw [hi.2.2]; exact growslice_fits (by omega) (by omega))
          rw [hr] at hr2
          obtain ⟨rfl, rfl⟩ := Result.ok.inj hr2
          exact .inr rfl
    obtain ⟨p', c', rfl, hs'⟩ := sat_grown hs h3 h2 hb (run_mono _ hr)
    rw [str_fl, ← fl_app, hz] at hs'
    unfold Oper.wp
    rw [eval_mk]
    have : (execOp (fe n l) o).run P w = .ok (.value (.slice p' (m + l2.length) c')) w' := by
      unfold execOp
      simp only [ho, resolve, invoke, builtin, Sem.run_bind, Sem.run_pure, Result.andThen_ok, List.map_toArray, List.map_cons, List.map_nil, hsv, hxv, hr, hz]
    rw [this, Oper.upon_value, hd, put_mk (by rw [nat_blt] at hn; simpa using hn)]
    exact h p' c' w' hs'
end Go.Proofs.YtfoliffeieeihaaGreatDoor
