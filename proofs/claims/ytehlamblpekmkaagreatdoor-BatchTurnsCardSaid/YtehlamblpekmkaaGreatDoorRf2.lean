/-
  Ranges over functions whose assignments make a new variable: the engine's rule. No program in sight.
-/
import Derived.Test.YtehlamblpekmkaaGreatDoorRf
namespace Go.Proofs.YtehlamblpekmkaaGreatDoor
section
variable {P : Program} {Q : Exit → Act → World → Prop} {g w : World} {L : List Assn} {c : Code} {ds : List Deferred}
theorem gi_rf2 {n : Nat} {l : Fr} {x : Operand} {ps : Array Tmp} {asg bd : Code} {gf : Nat} {cap : List Value} {N : Nat} {xs : Nat → List Value} {At K0 : List Assn} (ln : Nat → Fr) (lb : Nat → Nat → Fr) (Mid : Nat → Nat → List Assn → Prop) (Inv : Nat → List Assn → Prop) (Ex : Code → Nat → List Assn → Prop)
    (e : c = .rangeFunc x ps asg bd) (hx : fe n l x = .func (.func gf) #[] cap.toArray) (eg : ∀ a w, (callFunc gf a).run P w = .ok (.enter gf a) w)
    (hit : IT P gf cap N xs At) (h0 : Inv 0 K0) (hs : sat g w (K0 ++ (At ++ L))) (hps : ∀ i, i < N → (xs i).length = ps.size)
    (hfr : ∀ i, i < N → ({ tmps := (ps.zip (xs i).toArray).foldl (fun t (p, v) => t.setIfInBounds p v) (mkd ds n l).tmps, defers := [] } : Act) = mk n (ln i))
    (has : ∀ i, i < N → ∀ (lp : Nat) (w1 : World) (K : List Assn) (G : Assn), Inv i K → sat g w1 (K ++ (At ++ [G])) → WP (some lp) P asg (Exit.then (fun a w2 => ∃ r K2, a = mk n (lb i r) ∧ Mid i r K2 ∧ sat g w2 (K2 ++ (At ++ [G]))) (fun _ _ _ => False)) (mk n (ln i)) w1)
    (hbody : ∀ i, i < N → ∀ (lp : Nat) (w1 : World) (r : Nat) (K : List Assn) (G : Assn), Mid i r K → sat g w1 (K ++ (At ++ [G])) → WP (some lp) P bd (RB g Inv Ex At i G) (mk n (lb i r)) w1)
    (hdone : ∀ (D : Nat) (w1 : World) (K : List Assn), Inv N K → sat g w1 (pt D (.deferred (some [])) :: (K ++ (At ++ L))) → Q .normal (mkd (dfr D :: ds) n l) w1)
    (hstop : ∀ (D : Nat) (w1 : World) (ex : Code) (i : Nat) (K : List Assn), i < N → Ex ex i K → sat g w1 (pt D (.deferred (some [])) :: (K ++ L)) → WP none P ex Q (mkd (dfr D :: ds) n l) w1) : WP none P c Q (mkd ds n l) w :=
  gi_rf2A (A := fun _ => star At) ln lb Mid Inv Ex e hx eg (ita_of hit) h0 (sat_midA.1 hs) hps hfr
    (fun i hi lp w1 K G hK h => (has i hi lp w1 K G hK (sat_midA.2 h)).mono fun ex a w2 hq => by
      cases ex with
      | normal => obtain ⟨r, K2, h1, h2, h3⟩ := hq; exact ⟨r, K2, h1, h2, sat_midA.1 h3⟩
      | _ => exact hq)
    (fun i hi lp w1 r K G hK h => (hbody i hi lp w1 r K G hK (sat_midA.2 h)).mono rb_mid)
    (fun D w1 K hK h => hdone D w1 K hK ((sat_midA (K := pt D (.deferred (some [])) :: K)).2 h)) hstop
end
end Go.Proofs.YtehlamblpekmkaaGreatDoor
