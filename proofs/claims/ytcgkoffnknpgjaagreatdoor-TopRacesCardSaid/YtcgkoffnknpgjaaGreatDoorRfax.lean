/-
  Ranges over functions whose iterator changes its memory from round to round. No program in sight.
-/
import Derived.Test.YtcgkoffnknpgjaaGreatDoorRf2x
namespace Go.Proofs.YtcgkoffnknpgjaaGreatDoor
set_option linter.unusedVariables false
set_option linter.unusedSimpArgs false
section
variable {P : Program} {Q : Exit → Act → World → Prop} {g w : World} {L : List AB} {c : Code} {ds : List Deferred}
end
section
variable {P : Program} {Q : Exit → Act → World → Prop} {w : World} {c : Code} {ds : List Deferred} {f : FuncId} {fn : Func} {cap : List Value} {N : Nat} {xs : Nat → List Value} {A : Nat → AB} {ops : Array Oper} {n : Nat} {l : Fr}
theorem mF(n:Nat)(l:Nat→Fr)(hf:P.funcs[f]? =some fn)(hb:fn.body=some (CA fn []))(hn:fn.ntmps=n)(ha:Nat.ble (cap.length+1) n=true)(hl: ∀k,Cg (Value.func (.yield k) #[] #[]::cap) 0=l k)
 (h: ∀(g w:World) (R:AB) (k:Nat) (J E:Nat→AB),
   (∀i,i<N→ ∀(w1:World) (G:List AB),sat g w1 (J i::A (i+1)::G)→ ∀m,YieldAt (FW none) m P k (xs i).toArray w1 fun e w'=>(e= .returned (.bool true)∧sat g w' (J (i+1)::A (i+1)::G))∨(e= .returned (.bool false)∧sat g w' (E i::G)))→
   sat g w (J 0::A 0:: [R])→WP none P (CA fn []) (D6 0 P fn fun e w'=>(∃v,e= .returned v)∧(sat g w' (J N::A N:: [R])∨ ∃i,i<N∧sat g w' [E i,R])) (mk n (l k)) w):cJ P f cap N xs A:=by
 intro g w F k J E hY hs
 have fold: ∀ {w:World} {M:List AB},sat g w (M++F)→sat g w (M++ [Aj F]):=fun {w M} h=>AN (A:= [Aj F]) (AO (AN h))
 have unfold': ∀ {w:World} {M:List AB},sat g w (M++ [Aj F])→sat g w (M++F):=fun {w M} h=>AN (AK (AN (B:= [Aj F]) h))
 refine Calls.mono (R:=fun e w'=>(∃v,e= .returned v)∧(sat g w' ([J N,A N]++ [Aj F])∨ ∃i,i<N∧sat g w' [E i,Aj F])) ?_ ?_
 · refine HR (m:=0) (callsIn_of_wp_marks hf hb trivial ?_)
   rw[hn,Jd (Value.func (.yield k) #[] #[]::cap) n (by simpa using Nat.le_of_ble_eq_true ha),hl]
   exact FT (h g w (Aj F) k J E hY (fold (M:= [J 0,A 0]) hs)) 0
 · rintro e w' ⟨he,h1|⟨i,hi,h1⟩⟩
   · exact⟨he,.inl (unfold' (M:= [J N,A N]) h1)⟩
   · exact⟨he,.inr ⟨i,hi,unfold' (M:= [E i]) h1⟩⟩
end
end Go.Proofs.YtcgkoffnknpgjaaGreatDoor
