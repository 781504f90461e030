/-
  The contracts of the program's stack, with the length as a number of its own. No condition.
-/
import Derived.Test.YtafencnieimpnaaG1
import Derived.Test.YtafencnieimpnaaG2
import Derived.Test.YtafencnieimpnaaG3
import Derived.Test.YtafencnieimpnaaG4
namespace Go.Proofs.Ytafencnieimpnaa
section
variable (b n : Nat) (L : List Rf) (hn : L.length = n)
include hn
theorem len_n : HT Try.prog 16 [Value.pointer (some ⟨b, 0, none⟩)] [PStk b L] (fun v K => v = Value.int .i64 (n : Int) ∧ K = [PStk b L]) := by
  subst hn; exact len_ht b L
theorem get_n (i : Nat) (r : Rf) (z : Int) (hz : z = (i : Int)) (hi : i < n) (hr : L[i]? = some r) : HT Try.prog 19 [Value.pointer (some ⟨b, 0, none⟩), Value.int IntKind.i64 z] [PStk b L] (fun v K => v = Value.tuple #[Value.agg #[Value.int .i64 r.1, Value.int .u32 r.2], Value.int .i64 0] ∧ K = [PStk b L]) := by
  subst hn; exact get_hz b i L r z hz hi hr
theorem get_no (z : Int) (hi : z < 0 ∨ (n : Int) ≤ z) : HT Try.prog 19 [Value.pointer (some ⟨b, 0, none⟩), Value.int IntKind.i64 z] [PStk b L] (fun v K => v = Value.tuple #[Value.agg #[Value.int .i64 0, Value.int .u32 0], Value.int .i64 3] ∧ K = [PStk b L]) := by
  subst hn; exact get_out b z L hi
theorem drop_n (i : Nat) (r : Rf) (z : Int) (hz : z = (i : Int)) (hi : i < n) (hr : L[i]? = some r) : HT Try.prog 15 [Value.pointer (some ⟨b, 0, none⟩), Value.int IntKind.i64 z] [PStk b L] (fun v K => v = Value.tuple #[Value.agg #[Value.int .i64 r.1, Value.int .u32 r.2], Value.int .i64 0] ∧ K = [PStk b (L.eraseIdx i)]) := by
  subst hn; exact drop_hz b i L r z hz hi hr
theorem drop_no (z : Int) (hi : z < 0 ∨ (n : Int) ≤ z) : HT Try.prog 15 [Value.pointer (some ⟨b, 0, none⟩), Value.int IntKind.i64 z] [PStk b L] (fun v K => v = Value.tuple #[Value.agg #[Value.int .i64 0, Value.int .u32 0], Value.int .i64 3] ∧ K = [PStk b L]) := by
  subst hn; exact drop_out b z L hi
theorem push_n (s gn : Int) (hl : n < 32) (h0 : 0 ≤ s) (h1 : s ≤ 255) (h2 : 1 ≤ gn) : HT Try.prog 18 [Value.pointer (some ⟨b, 0, none⟩), Value.agg #[Value.int IntKind.i64 s, Value.int IntKind.u32 gn]] [PStk b L] (fun v K => v = Value.tuple #[Value.int .i64 (n : Int), Value.int .i64 0] ∧ K = [PStk b (L ++ [(s, gn)])]) := by
  subst hn; exact push_ht b L s gn hl h0 h1 h2
theorem push_nf (s gn : Int) (hl : n = 32) (h0 : 0 ≤ s) (h1 : s ≤ 255) (h2 : 1 ≤ gn) : HT Try.prog 18 [Value.pointer (some ⟨b, 0, none⟩), Value.agg #[Value.int IntKind.i64 s, Value.int IntKind.u32 gn]] [PStk b L] (fun v K => v = Value.tuple #[Value.int .i64 0, Value.int .i64 4] ∧ K = [PStk b L]) := by
  subst hn; exact push_full b L s gn hl h0 h1 h2
theorem pop_no (h0 : n = 0) : HT Try.prog 23 [Value.pointer (some ⟨b, 0, none⟩)] [PStk b L] (fun v K => v = Value.tuple #[Value.agg #[Value.int .i64 0, Value.int .u32 0], Value.int .i64 5] ∧ K = [PStk b L]) := by
  subst hn; exact pop_none b L h0
theorem pop_n (i : Nat) (r : Rf) (hi : n = i + 1) (hr : L[i]? = some r) : HT Try.prog 23 [Value.pointer (some ⟨b, 0, none⟩)] [PStk b L] (fun v K => v = Value.tuple #[Value.agg #[Value.int .i64 r.1, Value.int .u32 r.2], Value.int .i64 0] ∧ K = [PStk b (L.eraseIdx i)]) := by
  have h := pop_ht b L r
  rw [show L.length - 1 = i by omega] at h
  exact h hr
end
theorem pop_push (b : Nat) (L : List Rf) (r : Rf) : HT Try.prog 23 [Value.pointer (some ⟨b, 0, none⟩)] [PStk b (L ++ [r])] (fun v K => v = Value.tuple #[Value.agg #[Value.int .i64 r.1, Value.int .u32 r.2], Value.int .i64 0] ∧ K = [PStk b L]) := by
  have h := pop_n b (L.length + 1) (L ++ [r]) (by simp) L.length r rfl (by simp)
  rw [List.eraseIdx_append_of_length_le (Nat.le_refl _)] at h
  simpa using h
theorem take_er {L M : List Rf} {q : Nat} (h : L.take (q + 1) = M) (hq : M.length = q + 1) : L.take q = M.eraseIdx q := by
  subst h
  rw [List.eraseIdx_eq_take_drop_succ, List.take_take, List.drop_eq_nil_of_le (by omega), List.append_nil, Nat.min_eq_left (by omega)]

end Go.Proofs.Ytafencnieimpnaa
