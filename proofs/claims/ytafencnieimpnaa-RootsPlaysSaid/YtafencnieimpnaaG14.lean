/- Walks, printed by my generator gen15.py. -/
import Derived.Test.YtafencnieimpnaaRtsP
namespace Go.Proofs.Ytafencnieimpnaa
theorem push_ge (b n : Nat) (L : List Rf) (hn : L.length = n) (s gn : Int) (hl : 32 ≤ n) (h0 : 0 ≤ s) (h1 : s ≤ 255) (h2 : 1 ≤ gn) : HT Try.prog 18 [Value.pointer (some ⟨b, 0, none⟩), Value.agg #[Value.int IntKind.i64 s, Value.int IntKind.u32 gn]] [PStk b L] (fun v K => v = Value.tuple #[Value.int .i64 0, Value.int .i64 4] ∧ K = [PStk b L]) := by
  intro g w F hs
  have hle : L.length ≤ 32 := stk_le (j := 0) hs rfl
  exact push_nf b n L hn s gn (by omega) h0 h1 h2 g w F hs
theorem rpush_ge (b n : Nat) (L : List Rf) (hn : L.length = n) (s gn : Int) (hl : 32 ≤ n) (h0 : 0 ≤ s) (h1 : s ≤ 255) (h2 : 1 ≤ gn) : HT Try.prog 25 [Value.pointer (some ⟨b, 0, none⟩), Value.agg #[Value.int IntKind.i64 s, Value.int IntKind.u32 gn]] [RStk b L] (fun v K => v = Value.tuple #[Value.int .i64 0, Value.int .i64 4] ∧ K = [RStk b L]) := rpush_nf b n L hn s gn hl h0 h1 h2

theorem push_s (b : Nat) (L : List Rf) (s gn : Int) (hg : 0 ≤ gn) : HT Try.prog 18 [Value.pointer (some ⟨b, 0, none⟩), Value.agg #[Value.int IntKind.i64 s, Value.int IntKind.u32 gn]] [PStk b L] (fun v K => v = Value.tuple #[Value.int .i64 (pushI L (s, gn)), Value.int .i64 (pushE L (s, gn))] ∧ K = [PStk b (pushL L (s, gn))]) := by
  by_cases h : s < 0 ∨ 256 ≤ s ∨ gn = 0
  · have e : pushE L (s, gn) = 2 := if_pos h
    rw [pushI, pushL, e]
    exact push_arg b L s gn h
  · by_cases h2 : L.length < 32
    · have e : pushE L (s, gn) = 0 := by rw [pushE, if_neg h, if_pos h2]
      rw [pushI, pushL, e]
      exact push_n b L.length L rfl s gn h2 (by omega) (by omega) (by omega)
    · have e : pushE L (s, gn) = 4 := by rw [pushE, if_neg h, if_neg h2]
      rw [pushI, pushL, e]
      exact push_ge b L.length L rfl s gn (by omega) (by omega) (by omega) (by omega)
theorem get_s (b : Nat) (L : List Rf) (z : Int) : HT Try.prog 19 [Value.pointer (some ⟨b, 0, none⟩), Value.int IntKind.i64 z] [PStk b L] (fun v K => v = Value.tuple #[Value.agg #[Value.int .i64 (gr L z).1, Value.int .u32 (gr L z).2], Value.int .i64 (ge L z)] ∧ K = [PStk b L]) := by
  by_cases h : 0 ≤ z ∧ z < (L.length : Int)
  · rw [gr, ge, if_pos h, if_pos h]
    exact get_n b L.length L rfl z.toNat _ z (by omega) (by omega) (getD_some (by omega))
  · rw [gr, ge, if_neg h, if_neg h]
    exact get_no b L.length L rfl z (by omega)
theorem drop_s (b : Nat) (L : List Rf) (z : Int) : HT Try.prog 15 [Value.pointer (some ⟨b, 0, none⟩), Value.int IntKind.i64 z] [PStk b L] (fun v K => v = Value.tuple #[Value.agg #[Value.int .i64 (gr L z).1, Value.int .u32 (gr L z).2], Value.int .i64 (ge L z)] ∧ K = [PStk b (drL L z)]) := by
  by_cases h : 0 ≤ z ∧ z < (L.length : Int)
  · rw [gr, ge, drL, if_pos h, if_pos h, if_pos h]
    exact drop_n b L.length L rfl z.toNat _ z (by omega) (by omega) (getD_some (by omega))
  · rw [gr, ge, drL, if_neg h, if_neg h, if_neg h]
    exact drop_no b L.length L rfl z (by omega)
theorem pop_s (b : Nat) (L : List Rf) : HT Try.prog 23 [Value.pointer (some ⟨b, 0, none⟩)] [PStk b L] (fun v K => v = Value.tuple #[Value.agg #[Value.int .i64 (poR L).1, Value.int .u32 (poR L).2], Value.int .i64 (poE L)] ∧ K = [PStk b (poL L)]) := by
  by_cases h : L.length = 0
  · rw [poE, if_pos h, List.eq_nil_of_length_eq_zero h]
    exact pop_no b 0 [] rfl rfl
  · rw [poE, if_neg h]
    exact pop_n b L.length L rfl (L.length - 1) _ (by omega) (getD_some (by omega))
theorem find_s (b : Nat) (L : List Rf) (r : Rf) : HT Try.prog 14 [Value.pointer (some ⟨b, 0, none⟩), Value.agg #[Value.int IntKind.i64 r.1, Value.int IntKind.u32 r.2]] [PStk b L] (fun v K => v = Value.tuple #[Value.int .i64 (fi L r), Value.bool (decide (r ∈ L))] ∧ K = [PStk b L]) := by
  by_cases h : r ∈ L
  · rw [fi, if_pos h, decide_eq_true h]
    exact find_in b L r (fk L r) (fk_is h).1 (fk_is h).2
  · rw [fi, if_neg h, decide_eq_false h]
    exact find_out b L r h
theorem has_s (b : Nat) (L : List Rf) (r : Rf) : HT Try.prog 13 [Value.pointer (some ⟨b, 0, none⟩), Value.agg #[Value.int IntKind.i64 r.1, Value.int IntKind.u32 r.2]] [PStk b L] (fun v K => v = Value.bool (decide (r ∈ L)) ∧ K = [PStk b L]) := by
  by_cases h : r ∈ L
  · rw [decide_eq_true h]
    exact has_in b L r h
  · rw [decide_eq_false h]
    exact has_out b L r h

theorem rpush_s (b : Nat) (L : List Rf) (s gn : Int) (hg : 0 ≤ gn) : HT Try.prog 25 [Value.pointer (some ⟨b, 0, none⟩), Value.agg #[Value.int IntKind.i64 s, Value.int IntKind.u32 gn]] [RStk b L] (fun v K => v = Value.tuple #[Value.int .i64 (pushI L (s, gn)), Value.int .i64 (pushE L (s, gn))] ∧ K = [RStk b (pushL L (s, gn))]) := by
  by_cases h : s < 0 ∨ 256 ≤ s ∨ gn = 0
  · have e : pushE L (s, gn) = 2 := if_pos h
    rw [pushI, pushL, e]
    exact rpush_arg b L s gn h
  · by_cases h2 : L.length < 32
    · have e : pushE L (s, gn) = 0 := by rw [pushE, if_neg h, if_pos h2]
      rw [pushI, pushL, e]
      exact rpush_n b L.length L rfl s gn h2 (by omega) (by omega) (by omega)
    · have e : pushE L (s, gn) = 4 := by rw [pushE, if_neg h, if_neg h2]
      rw [pushI, pushL, e]
      exact rpush_ge b L.length L rfl s gn (by omega) (by omega) (by omega) (by omega)
theorem rget_s (b : Nat) (L : List Rf) (z : Int) : HT Try.prog 29 [Value.pointer (some ⟨b, 0, none⟩), Value.int IntKind.i64 z] [RStk b L] (fun v K => v = Value.tuple #[Value.agg #[Value.int .i64 (gr L z).1, Value.int .u32 (gr L z).2], Value.int .i64 (ge L z)] ∧ K = [RStk b L]) := by
  by_cases h : 0 ≤ z ∧ z < (L.length : Int)
  · rw [gr, ge, if_pos h, if_pos h]
    exact rget_n b L.length L rfl z.toNat _ z (by omega) (by omega) (getD_some (by omega))
  · rw [gr, ge, if_neg h, if_neg h]
    exact rget_no b L.length L rfl z (by omega)
theorem rdrop_s (b : Nat) (L : List Rf) (z : Int) (hb : L.length ≤ 1000000) : HT Try.prog 26 [Value.pointer (some ⟨b, 0, none⟩), Value.int IntKind.i64 z] [RStk b L] (fun v K => v = Value.tuple #[Value.agg #[Value.int .i64 (gr L z).1, Value.int .u32 (gr L z).2], Value.int .i64 (ge L z)] ∧ K = [RStk b (drL L z)]) := by
  by_cases h : 0 ≤ z ∧ z < (L.length : Int)
  · rw [gr, ge, drL, if_pos h, if_pos h, if_pos h]
    exact rdrop_n b L.length L rfl hb z.toNat _ z (by omega) (by omega) (getD_some (by omega))
  · rw [gr, ge, drL, if_neg h, if_neg h, if_neg h]
    exact rdrop_no b L.length L rfl z (by omega)
theorem rpop_s (b : Nat) (L : List Rf) (hb : L.length ≤ 1000000) : HT Try.prog 27 [Value.pointer (some ⟨b, 0, none⟩)] [RStk b L] (fun v K => v = Value.tuple #[Value.agg #[Value.int .i64 (poR L).1, Value.int .u32 (poR L).2], Value.int .i64 (poE L)] ∧ K = [RStk b (poL L)]) := by
  by_cases h : L.length = 0
  · rw [poE, if_pos h, List.eq_nil_of_length_eq_zero h]
    exact rpop_no b 0 [] rfl rfl
  · rw [poE, if_neg h]
    exact rpop_n b L.length L rfl hb (L.length - 1) _ (by omega) (getD_some (by omega))
theorem rfind_s (b : Nat) (L : List Rf) (r : Rf) : HT Try.prog 30 [Value.pointer (some ⟨b, 0, none⟩), Value.agg #[Value.int IntKind.i64 r.1, Value.int IntKind.u32 r.2]] [RStk b L] (fun v K => v = Value.tuple #[Value.int .i64 (fi L r), Value.bool (decide (r ∈ L))] ∧ K = [RStk b L]) := by
  by_cases h : r ∈ L
  · rw [fi, if_pos h, decide_eq_true h]
    exact rfind_in b L r (fk L r) (fk_is h).1 (fk_is h).2
  · rw [fi, if_neg h, decide_eq_false h]
    exact rfind_out b L r h
theorem rhas_s (b : Nat) (L : List Rf) (r : Rf) : HT Try.prog 31 [Value.pointer (some ⟨b, 0, none⟩), Value.agg #[Value.int IntKind.i64 r.1, Value.int IntKind.u32 r.2]] [RStk b L] (fun v K => v = Value.bool (decide (r ∈ L)) ∧ K = [RStk b L]) := by
  by_cases h : r ∈ L
  · rw [decide_eq_true h]
    exact rhas_in b L r h
  · rw [decide_eq_false h]
    exact rhas_out b L r h

end Go.Proofs.Ytafencnieimpnaa
