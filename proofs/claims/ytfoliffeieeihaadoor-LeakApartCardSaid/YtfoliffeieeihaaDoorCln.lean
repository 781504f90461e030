/-
  maps.Clone: values in interfaces, and a copy of a map. No program in sight.
-/
import Derived.Test.YtfoliffeieeihaaDoorMap
import GoSem.Extern.MapsClone
namespace Go.Proofs.YtfoliffeieeihaaDoor
variable {ds : List Deferred} {P : Program} {o : Oper} {n : Nat} {l : Fr} {g w : World} {L : List Assn} {b : Nat} {E : Mm} {N : Act → World → Prop} {Q : Exit → Act → World → Prop}
theorem setL_mid : ∀ (ks : List (Nat × Value)) (A B C : List Value), (ks.all fun q => Nat.blt q.1 B.length) = true → setL (A ++ (B ++ C)) (ks.map fun q => (A.length + q.1, q.2)) = A ++ (setL B ks ++ C)
  | [], A, B, C, _ => rfl
  | (k, v) :: ks, A, B, C, h => by
    simp only [List.all_cons, Bool.and_eq_true, nat_blt, decide_eq_true_eq] at h
    have h2 := setL_mid ks A (B.set k v) C (by rw [List.length_set]; simpa [nat_blt] using h.2)
    simp only [List.map_cons, setL]
    rw [List.set_append_right _ _ (by omega), show A.length + k - A.length = k from by omega, List.set_append_left _ _ h.1]
    exact h2
/-- Cells of one element of a list are written. -/
theorem fl_upd {α : Type} {sz : Nat} {f : α → List Value} (ok : Enc sz f) {L : List α} {i : Nat} {x y : α} (hx : L[i]? = some x) (ks : List (Nat × Value)) (hk : (ks.all fun q => Nat.blt q.1 sz) = true) (h : setL (f x) ks = f y) {ks' : List (Nat × Value)}
    (hks : ks' = ks.map fun q => (i * sz + q.1, q.2)) : setL (fl f L) ks' = fl f (L.set i y) := by
  obtain ⟨hi, he⟩ := List.getElem?_eq_some_iff.1 hx
  have hL : L = L.take i ++ x :: L.drop (i + 1) := by rw [← he, ← List.drop_eq_getElem_cons hi, List.take_append_drop]
  have e1 : fl f L = fl f (L.take i) ++ (f x ++ fl f (L.drop (i + 1))) := by
    conv => lhs; rw [hL]
    rw [fl_app]
    rfl
  have e2 : fl f (L.set i y) = fl f (L.take i) ++ (f y ++ fl f (L.drop (i + 1))) := by
    rw [List.set_eq_take_append_cons_drop, if_pos hi, fl_app]
    rfl
  have hl : (fl f (L.take i)).length = i * sz := by rw [fl_len ok, List.length_take, Nat.min_eq_left (by omega)]
  rw [hks, e1, e2, ← h, ← hl]
  exact setL_mid ks _ _ _ (by rw [ok.1 x]; exact hk)
end Go.Proofs.YtfoliffeieeihaaDoor
