/-
  What stacks of roots do, as functions of their list.
-/
import Derived.Test.YtafencnieimpnaaG13
namespace Go.Proofs.Ytafencnieimpnaa

def pushE (L : List Rf) (r : Rf) : Int := if r.1 < 0 ∨ 256 ≤ r.1 ∨ r.2 = 0 then 2 else if L.length < 32 then 0 else 4
def pushI (L : List Rf) (r : Rf) : Int := if pushE L r = 0 then (L.length : Int) else 0
def pushL (L : List Rf) (r : Rf) : List Rf := if pushE L r = 0 then L ++ [r] else L
def ge (L : List Rf) (z : Int) : Int := if 0 ≤ z ∧ z < (L.length : Int) then 0 else 3
def gr (L : List Rf) (z : Int) : Rf := if 0 ≤ z ∧ z < (L.length : Int) then L.getD z.toNat (0, 0) else (0, 0)
def drL (L : List Rf) (z : Int) : List Rf := if 0 ≤ z ∧ z < (L.length : Int) then L.eraseIdx z.toNat else L
def poE (L : List Rf) : Int := if L.length = 0 then 5 else 0
def poR (L : List Rf) : Rf := L.getD (L.length - 1) (0, 0)
def poL (L : List Rf) : List Rf := L.eraseIdx (L.length - 1)
def fi (L : List Rf) (r : Rf) : Int := if r ∈ L then (fk L r : Int) else 0
theorem getD_some {L : List Rf} {i : Nat} (h : i < L.length) : L[i]? = some (L.getD i (0, 0)) := by
  rw [List.getD_eq_getElem?_getD, List.getElem?_eq_getElem h]; rfl

structure St where
  o : Int
  r : Rf
  i : Int
abbrev eS : St → List Value := fun t => [.int .i64 t.o, .int .i64 t.r.1, .int .u32 t.r.2, .int .i64 t.i]
theorem eS_ok : Enc 4 eS := ⟨fun _ => rfl, fun x v hv => by simp only [eS, List.mem_cons, List.not_mem_nil, or_false] at hv; rcases hv with rfl | rfl | rfl | rfl <;> rfl⟩
def StOk (T : List St) : Prop := ∀ t ∈ T, 0 ≤ t.r.2

end Go.Proofs.Ytafencnieimpnaa
