/-
  Shorter forms once more: what is read, row by row; calls, batches and ends in one line. No program in sight.
-/
import Derived.Test.YtggfnbpohmhphaaDoorSh2
namespace Go.Proofs.YtggfnbpohmhphaaDoor
/-- What a batch says of an operation: its value as reckoned, or the row that it reads. -/
inductive Spc where
  | v (i : Nat) (x : Value)
  | r (i b off : Nat) (vs : List Value)
def rowP (i b : Nat) : Nat → List Value → List Pt
  | _, [] => []
  | off, v :: vs => (i, ⟨b, off, none⟩, v) :: rowP i b (off + 1) vs
def RowH (w : World) (b : Nat) : Nat → List Value → Prop
  | _, [] => True
  | off, v :: vs => w.cell? ⟨b, off, none⟩ = some v ∧ RowH w b (off + 1) vs
theorem rowP_all {w : World} {i b : Nat} : ∀ {vs : List Value} {off : Nat}, RowH w b off vs → AllC w (rowP i b off vs)
  | [], _, _ => AllC_nil w
  | _ :: _, _, h => AllC_cons h.1 (rowP_all h.2)
theorem rowH_of {w : World} {b : Nat} {cs : List Value} (h : ∀ (k : Nat) (v : Value), cs[k]? = some v → w.cell? ⟨b, k, none⟩ = some v) : ∀ {vs : List Value} {off : Nat}, (cs.drop off).take vs.length = vs → RowH w b off vs
  | [], _, _ => trivial
  | v :: vs, off, hv => by
    have h0 : cs[off]? = some v := by
      have h1 := congrArg (fun l => l[0]?) hv
      simpa [List.getElem?_take, List.getElem?_drop] using h1
    refine ⟨h _ _ h0, rowH_of h ?_⟩
    have hl := (List.getElem?_eq_some_iff.1 h0).1
    rw [List.drop_eq_getElem_cons hl, List.length_cons, List.take_succ_cons] at hv
    exact (List.cons.inj hv).2
theorem cR {g w : World} {A : List Assn} {b off : Nat} {cs vs : List Value} {t : TypeId} (hs : sat g w A) (j : Nat) (hj : A[j]? = some (Cl b cs t)) (hv : (cs.drop off).take vs.length = vs) : RowH w b off vs := rowH_of (fun _ _ hk => sat_cell hs j hj hk) hv
section
variable {P : Program} {ops : Array Oper} {Q : Exit → Act → World → Prop} {ds : List Deferred} {n : Nat} {l : Fr} {w : World} {rest : List Nat}
end
section
variable {P : Program} {fn : Func} {m n : Nat} {l : Fr} {w : World} {R : Ending → World → Prop}
end
end Go.Proofs.YtggfnbpohmhphaaDoor
