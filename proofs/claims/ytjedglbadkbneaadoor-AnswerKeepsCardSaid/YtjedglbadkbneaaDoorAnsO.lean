/-
  Answers, and the order in which they come: plain lists; slices of slices. No program in sight.
-/
import Derived.Test.YtjedglbadkbneaaDoorAnsQ
import Derived.Test.YtjedglbadkbneaaDoorAnsB
namespace Go.Proofs.YtjedglbadkbneaaDoor

theorem ov_sl {p : Option Addr} {n n' c : Nat} (h : n = n') : Value.slice p n c = Value.slice p n' c := by rw [h]
/-- A row among the rows that came in. -/
structure Sn where
  p : Option Addr
  n : Nat
  c : Nat
  T : List UInt8
def eN (s : Sn) : List Value := [.slice s.p s.n s.c]
theorem eN_ok : Enc 1 eN := ⟨fun _ => rfl, fun x v hv => by simp [eN] at hv; subst hv; rfl⟩
def SnOk (w : World) (s : Sn) : Prop := Rd w s.p s.n (fl eB s.T) ∧ s.T.length = s.n ∧ s.n ≤ s.c ∧ s.c ≤ 9223372036854775807
/-- The answers of a row; of all rows. -/
def an (T : List UInt8) : List Int := (T.map lq).map cd
def wl : List Sn → List Int
  | [] => []
  | s :: O => an s.T ++ wl O
theorem an_len (T : List UInt8) : (an T).length = T.length := by simp [an]
theorem wl_app (O : List Sn) (s : Sn) : wl (O ++ [s]) = wl O ++ an s.T := by
  induction O with
  | nil => simp [wl]
  | cons a O ih => simp [wl, ih]
theorem wl_go {O : List Sn} {i : Nat} {s : Sn} (h : O[i]? = some s) : wl (O.take i) ++ an s.T = wl (O.take (i + 1)) := by
  rw [List.take_add_one, h, Option.toList_some, wl_app]
theorem an_go {T : List UInt8} {k : Nat} {b : UInt8} {z : Int} (h : T[k]? = some b) (hz : cd (lq b) = z) : an (T.take k) ++ [z] = an (T.take (k + 1)) := by
  subst hz
  rw [List.take_add_one, h]
  simp [an]
theorem an_in {L : List Int} {T : List UInt8} {k : Nat} {b : UInt8} {z : Int} (h : T[k]? = some b) (hz : cd (lq b) = z) : (L ++ an (T.take k)) ++ [z] = L ++ an (T.take (k + 1)) := by rw [List.append_assoc, an_go h hz]
theorem an_end {L : List Int} {T : List UInt8} {k : Nat} (h : T.length ≤ k) : L ++ an (T.take k) = L ++ an T := by rw [List.take_of_length_le h]
theorem hd_drop {L : List Int} {i : Nat} {x : Int} (h : L[i]? = some x) : (L.drop i).headD 1 = x := by
  induction L generalizing i with
  | nil => simp at h
  | cons a L ih =>
    cases i with
    | zero => simpa using h
    | succ i => simpa using ih (by simpa using h)
theorem tl_drop' (L : List Int) (i : Nat) : (L.drop i).tail = L.drop (i + 1) := by rw [List.tail_drop]
theorem drop_at {L : List Int} {i : Nat} {x y : Int} (h : (L.drop i)[0]? = some x) (h2 : L[i]? = some y) : x = y := by
  rw [List.getElem?_drop, Nat.add_zero, h2] at h
  simpa using h.symm
theorem drop_len {L : List Int} {i n m : Nat} (h : L.length = n) (hm : n = m + i) : (L.drop i).length = m := by rw [List.length_drop]; omega
theorem drop_all {L : List Int} {i : Nat} (h : L.length ≤ i) : L.drop i = [] := List.drop_eq_nil_of_le h
end Go.Proofs.YtjedglbadkbneaaDoor
