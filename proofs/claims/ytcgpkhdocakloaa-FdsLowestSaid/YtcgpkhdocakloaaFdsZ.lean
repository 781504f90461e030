/-
  What the laws about files need: steps; an old pair of tables; lists of a known form. No program in sight.
-/
import Derived.Test.YtcgpkhdocakloaaF11
import Derived.Test.YtcgpkhdocakloaaFdsY
namespace Go.Proofs.Ytcgpkhdocakloaa
abbrev Stp := Int × Int × Ky
def eStp (s : Stp) : List Value := [.int .i64 s.1, .int .i64 s.2.1, .int .i64 s.2.2.1, .int .i64 s.2.2.2.1, .int .u32 s.2.2.2.2]
theorem eStp_ok : Enc 5 eStp := ⟨fun _ => rfl, fun x v hv => by simp [eStp] at hv; rcases hv with rfl | rfl | rfl | rfl | rfl <;> rfl⟩
def StpOk (s : Stp) : Prop := 0 ≤ s.2.2.2.2 ∧ s.2.2.2.2 ≤ 4294967295
theorem stp_ok {T : List Stp} (h : ∀ s ∈ T, StpOk s) {i : Nat} {s : Stp} (hs : T[i]? = some s) : 0 ≤ s.2.2.2.2 ∧ s.2.2.2.2 ≤ 4294967295 := h s (List.mem_of_getElem? hs)
/-- The pair of tables that was copied, if there is one. -/
def Op2 (o1 o2 : Option Addr) : Assn := fun h => (o1 = none ∧ o2 = none) ∨ ∃ x : Nat × Nat × Nat × Xs, o1 = some ⟨x.1, 0, none⟩ ∧ o2 = some ⟨x.2.1, 0, none⟩ ∧ star [Fd x.1 x.2.2.1 x.2.2.2, Dc x.2.1 x.2.2.1 x.2.2.2] h
section
variable {g w : World} {A : List Assn} {b d n : Nat} {X : Xs} {o1 o2 : Option Addr}
theorem op2_nil (h : sat g w A) : sat g w (Op2 none none :: A) := sat_imp (sl_nil 0 1 h) fun _ _ => .inl ⟨rfl, rfl⟩
theorem op2_close (h : sat g w (Fd b n X :: Dc d n X :: A)) : sat g w (Op2 (some ⟨b, 0, none⟩) (some ⟨d, 0, none⟩) :: A) :=
  sat_imp (sat_star (K := [Fd b n X, Dc d n X]) h) fun k hk => .inr ⟨(b, d, n, X), rfl, rfl, hk⟩
theorem op2_open (h : sat g w (Op2 o1 o2 :: A)) : (o1 = none ∧ o2 = none ∧ sat g w A) ∨ ∃ b d n X, o1 = some ⟨b, 0, none⟩ ∧ o2 = some ⟨d, 0, none⟩ ∧ sat g w (Fd b n X :: Dc d n X :: A) := by
  obtain ⟨x, hx, h1⟩ := sat_open (X := Option (Nat × Nat × Nat × Xs)) (p := fun x => match x with | none => o1 = none ∧ o2 = none | some x => o1 = some ⟨x.1, 0, none⟩ ∧ o2 = some ⟨x.2.1, 0, none⟩)
    (B := fun x => match x with | none => Emp | some x => star [Fd x.1 x.2.2.1 x.2.2.2, Dc x.2.1 x.2.2.1 x.2.2.2]) h (fun k hk => by
      rcases hk with hk | ⟨x, h1, h2, h3⟩
      · exact ⟨none, hk, trivial⟩
      · exact ⟨some x, ⟨h1, h2⟩, h3⟩)
  cases x with
  | none => exact .inl ⟨hx.1, hx.2, sat_sel_tail h1⟩
  | some x => exact .inr ⟨x.1, x.2.1, x.2.2.1, x.2.2.2, hx.1, hx.2, sat_unstar h1⟩
end
theorem allX_bd {X : Xs} (hk : SlOk (As X)) {q : Nat} {o : Ky} (h : (allX X)[q]? = some o) : o.1 = 1 ∧ 0 ≤ o.2.1 ∧ 1 ≤ o.2.2 ∧ o.2.2 ≤ 4294967295 ∧ (As X)[o.2.1.toNat]? = some (1, o.2.2) := by
  unfold allX at h
  rw [List.getElem?_map] at h
  cases hr : (inS 1 (As X) 0)[q]? with
  | none => rw [hr] at h; cases h
  | some r =>
    rw [hr] at h
    obtain ⟨j, z⟩ := r
    obtain rfl := (Option.some.inj h)
    have h1 := (inS_mem hr).2
    rw [Nat.sub_zero] at h1
    have h2 := hk _ (List.mem_of_getElem? h1)
    refine ⟨rfl, Int.natCast_nonneg j, h2.2.2.1, h2.2.2.2, ?_⟩
    show (As X)[((j : Nat) : Int).toNat]? = _
    rw [Int.toNat_natCast]
    exact h1
theorem fd_bd {g w : World} {A : List Assn} {b n : Nat} {X : Xs} (h : sat g w (Fd b n X :: A)) : (As X).length = n ∧ 1 ≤ n ∧ n ≤ 64 ∧ SlOk (As X) := by
  obtain ⟨s, m, E, h1, h2⟩ := fd_open h
  have h3 := tb_bd (j := 1) h2 rfl
  exact ⟨h3.1, h3.2.1, h1.2, h3.2.2.2⟩
theorem rep_cons {α : Type} {m : Nat} {x : α} (h : 1 ≤ m) : List.replicate m x = x :: List.replicate (m - 1) x := by
  obtain ⟨k, rfl⟩ : ∃ k, m = k + 1 := ⟨m - 1, by omega⟩
  rfl
theorem cons_rep {α : Type} {m q : Nat} {a x : α} (h : 1 ≤ q) (hq : q ≤ m) : (a :: List.replicate m x)[q]? = some x := by
  obtain ⟨k, rfl⟩ : ∃ k, q = k + 1 := ⟨q - 1, by omega⟩
  rw [List.getElem?_cons_succ, List.getElem?_replicate, if_pos (by omega)]
theorem inS_rep {q : Int} (g v : Int) (hq : (0 : Int) ≠ q) : ∀ (k j : Nat), inS q (As (List.replicate k (0, g, v))) j = []
  | 0, j => rfl
  | k + 1, j => by
    rw [List.replicate_succ]
    show (if (0 : Int) = q then _ else _) = _
    rw [if_neg hq]
    exact inS_rep g v hq k (j + 1)
theorem inS_one {g v : Int} {k : Nat} {g' : Int} : inS 1 (As ((1, g, v) :: List.replicate k (0, g', 0))) 0 = [(0, g)] := by
  show (if (1 : Int) = 1 then _ else _) = _
  rw [if_pos rfl]
  exact congrArg _ (inS_rep g' 0 (by decide) k 1)
theorem inS_none {e g v : Int} {k : Nat} {g' : Int} (he : e ≠ 1) : inS 1 (As ((e, g, v) :: List.replicate k (0, g', 0))) 0 = [] := by
  show (if e = 1 then _ else _) = _
  rw [if_neg he]
  exact inS_rep g' 0 (by decide) k 1
theorem all_one {g v : Int} (k : Nat) (g' : Int) : allX ((1, g, v) :: List.replicate k (0, g', 0)) = [(1, 0, g)] := by
  unfold allX
  rw [inS_one]
  rfl
theorem len_one {g v : Int} (k : Nat) (g' : Int) : (inS 1 (As ((1, g, v) :: List.replicate k (0, g', 0))) 0).length = 1 := by
  rw [inS_one]
  rfl
theorem all_none {e g v : Int} (he : e ≠ 1) (k : Nat) (g' : Int) : allX ((e, g, v) :: List.replicate k (0, g', 0)) = [] := by
  unfold allX
  rw [inS_none he]
  rfl
theorem len_none {e g v : Int} (he : e ≠ 1) (k : Nat) (g' : Int) : (inS 1 (As ((e, g, v) :: List.replicate k (0, g', 0))) 0).length = 0 := by
  rw [inS_none he]
  rfl
end Go.Proofs.Ytcgpkhdocakloaa
