/-
  Ranges over functions whose assignments make a new variable: the engine's rule. No program in sight.
-/
import Derived.Test.YtehlamblpekmkaaGreatDoorRf
namespace Go.Proofs.YtehlamblpekmkaaGreatDoor
section
variable {P : Program} {Q : Exit → Act → World → Prop} {g w : World} {L : List Assn} {c : Code} {ds : List Deferred}
theorem gi_rf2 {n : Nat} {l : Fr} {x : Operand} {ps : Array Tmp} {asg bd : Code} {gf : Nat} {cap : List Value} {N : Nat} {xs : Nat → List Value} {At K0 : List Assn} (ln : Nat → Fr) (lb : Nat → Nat → Fr) (Mid : Nat → Nat → List Assn → Prop) (Inv : Nat → List Assn → Prop) (Ex : Code → Nat → List Assn → Prop)
    (e : c = .rangeFunc x ps asg bd) (hx : fe n l x = .func (.func gf) #[] cap.toArray) (eg : ∀ a w, (callFunc gf a).run P w = .ok (.enter gf a) w)
    (hit : IT P gf cap N xs At) (h0 : Inv 0 K0) (hs : sat g w (K0 ++ (At ++ L))) (hps : ∀ i, i < N → (xs i).length = ps.size)
    (hfr : ∀ i, i < N → ({ tmps := (ps.zip (xs i).toArray).foldl (fun t (p, v) => t.setIfInBounds p v) (mkd ds n l).tmps, defers := [] } : Act) = mk n (ln i))
    (has : ∀ i, i < N → ∀ (lp : Nat) (w1 : World) (K : List Assn) (G : Assn), Inv i K → sat g w1 (K ++ (At ++ [G])) → WP (some lp) P asg (Exit.then (fun a w2 => ∃ r K2, a = mk n (lb i r) ∧ Mid i r K2 ∧ sat g w2 (K2 ++ (At ++ [G]))) (fun _ _ _ => False)) (mk n (ln i)) w1)
    (hbody : ∀ i, i < N → ∀ (lp : Nat) (w1 : World) (r : Nat) (K : List Assn) (G : Assn), Mid i r K → sat g w1 (K ++ (At ++ [G])) → WP (some lp) P bd (RB g Inv Ex At i G) (mk n (lb i r)) w1)
    (hdone : ∀ (D : Nat) (w1 : World) (K : List Assn), Inv N K → sat g w1 (pt D (.deferred (some [])) :: (K ++ (At ++ L))) → Q .normal (mkd (dfr D :: ds) n l) w1)
    (hstop : ∀ (D : Nat) (w1 : World) (ex : Code) (i : Nat) (K : List Assn), i < N → Ex ex i K → sat g w1 (pt D (.deferred (some [])) :: (K ++ L)) → WP none P ex Q (mkd (dfr D :: ds) n l) w1) : WP none P c Q (mkd ds n l) w := fun hL m => by
  subst e
  refine wpIn_rangeFunc ?_
  intro fn hfn
  obtain ⟨rec, hrec⟩ : ∃ rec : LoopState → Option Code → Loop, rec = fun st pe => { state := st, pending := pe, fn, tmps := (mkd ds n l).tmps, params := ps, assign := asg, body := bd, defers := w.heap.size } := ⟨_, rfl⟩
  obtain ⟨W1, hW1⟩ : ∃ W1, (w.alloc (.deferred (some []))).alloc (.loop (rec .ready none)) = W1 := ⟨_, rfl⟩
  have hs1 : sat g W1 (pt (w.heap.size + 1) (.loop (rec .ready none)) :: pt w.heap.size (.deferred (some [])) :: (K0 ++ (At ++ L))) := by
    have h1 := sat_alloc (sat_alloc hs (.deferred (some []))) (.loop (rec .ready none))
    rw [World.size_alloc] at h1
    rw [← hW1]
    exact h1
  let D := w.heap.size
  let J : Nat → Assn := fun i h => ∃ K, Inv i K ∧ star (pt (D + 1) (.loop (rec .ready none)) :: pt D (.deferred (some [])) :: K) h
  let E : Nat → Assn := fun i h => ∃ x : Code × List Assn, Ex x.1 i x.2 ∧ star (pt (D + 1) (.loop (rec .done (some x.1))) :: pt D (.deferred (some [])) :: x.2) h
  have openJ : ∀ {i : Nat} {w1 : World} {G : List Assn}, sat g w1 (J i :: G) → ∃ K, Inv i K ∧ sat g w1 (pt (D + 1) (.loop (rec .ready none)) :: pt D (.deferred (some [])) :: (K ++ G)) := fun {i w1 G} h => by
    obtain ⟨K, hK, h1⟩ := sat_open (X := List Assn) (p := fun K => Inv i K) (B := fun K => star (pt (D + 1) (.loop (rec .ready none)) :: pt D (.deferred (some [])) :: K)) h (fun k hk => hk)
    exact ⟨K, hK, sat_unstar h1⟩
  have closeJ : ∀ {i : Nat} {w1 : World} {K G : List Assn}, Inv i K → sat g w1 (pt (D + 1) (.loop (rec .ready none)) :: pt D (.deferred (some [])) :: (K ++ G)) → sat g w1 (J i :: G) := fun {i w1 K G} hK h =>
    sat_imp (sat_star (K := pt (D + 1) (.loop (rec .ready none)) :: pt D (.deferred (some [])) :: K) h) fun k hk => ⟨K, hK, hk⟩
  have openE : ∀ {i : Nat} {w1 : World} {G : List Assn}, sat g w1 (E i :: G) → ∃ x : Code × List Assn, Ex x.1 i x.2 ∧ sat g w1 (pt (D + 1) (.loop (rec .done (some x.1))) :: pt D (.deferred (some [])) :: (x.2 ++ G)) := fun {i w1 G} h => by
    obtain ⟨x, hK, h1⟩ := sat_open (X := Code × List Assn) (p := fun x => Ex x.1 i x.2) (B := fun x => star (pt (D + 1) (.loop (rec .done (some x.1))) :: pt D (.deferred (some [])) :: x.2)) h (fun k hk => hk)
    exact ⟨x, hK, sat_unstar h1⟩
  have closeE : ∀ {i : Nat} {w1 : World} {ex : Code} {K G : List Assn}, Ex ex i K → sat g w1 (pt (D + 1) (.loop (rec .done (some ex))) :: pt D (.deferred (some [])) :: (K ++ G)) → sat g w1 (E i :: G) := fun {i w1 ex K G} hK h =>
    sat_imp (sat_star (K := pt (D + 1) (.loop (rec .done (some ex))) :: pt D (.deferred (some [])) :: K) h) fun k hk => ⟨(ex, K), hK, hk⟩
  have turn : ∀ {st st2 : LoopState} {pe pe2 : Option Code} {w1 : World} {G : List Assn}, sat g w1 (pt (D + 1) (.loop (rec st pe)) :: G) → sat g (w1.putObj (D + 1) (.loop (rec st2 pe2))) (pt (D + 1) (.loop (rec st2 pe2)) :: G) := fun {st st2 pe pe2 w1 G} h =>
    sat_put h ⟨rfl, rfl, rfl, Nat.le_refl _⟩ (World.putObj_heap_same (Array.getElem?_eq_some_iff.1 (sat_at (i := 0) h rfl)).1) (fun j hj => World.putObj_heap_other hj)
  have endL : ∀ {st : LoopState} {pe : Option Code} {w2 : World} {G : List Assn}, st ≠ .busy → sat g w2 (pt (D + 1) (.loop (rec st pe)) :: G) → ∃ w3, (Instr.endLoop (D + 1)).run P w2 = .ok pe w3 ∧ sat g w3 G := fun {st pe w2 G} hb h => by
    have hl := sat_at (i := 0) h rfl
    have h1 := run_endLoop (P := P) hl (by rw [hrec]; exact hb)
    have h2 : (rec st pe).pending = pe := by rw [hrec]
    rw [h2] at h1
    exact ⟨_, h1, sat_sel_tail (sat_put h ⟨rfl, rfl, rfl, Nat.le_refl _⟩ (World.putObj_heap_same (Array.getElem?_eq_some_iff.1 hl).1) (fun j hj => World.putObj_heap_other hj))⟩
  refine ⟨D + 1, [{ target := .collected D, args := #[] }], W1, { target := .fn (.func gf) cap.toArray, args := #[.func (.yield (D + 1)) #[] #[]] }, W1, gf,
    #[.func (.yield (D + 1)) #[] #[]] ++ cap.toArray, W1, ?_, ?_, fun _ _ => trivial, ?_, fun hh => by simp [Fence.wide] at hh, ?_⟩
  · rw [← hW1, hrec]; exact run_enterLoop_outer _ _ _ _ _
  · rw [eval_mk]
    simp only [resolve, hx]
    simp [go_sem]
    rfl
  · simp [invoke, go_sem, eg]
  · have hargs : #[Value.func (.yield (D + 1)) #[] #[]] ++ cap.toArray = (Value.func (.yield (D + 1)) #[] #[] :: cap).toArray := by simp
    rw [hargs]
    refine fw_calls ((hit g W1 L (D + 1) J E ?_ (closeJ h0 hs1)).mono ?_)
    · intro i hi w1 G hw1 m
      obtain ⟨K, hK, h1⟩ := openJ hw1
      have hl1 : w1.heap[D + 1]? = some (.loop (rec .ready none)) := sat_at (i := 0) h1 rfl
      have hy := run_yield (P := P) (args := (xs i).toArray) hl1 (by rw [hrec]; simpa using hps i hi)
      rw [hrec] at hy
      refine ⟨fn, _, asg, bd, hy, roundIn_of_wpIn hfn ?_⟩
      rw [hfr i hi]
      have hG : sat g w1 (K ++ (At ++ [star (G ++ [pt (D + 1) (.loop (rec .ready none)), pt D (.deferred (some []))])])) := by
        have h3 : sat g w1 ((K ++ At) ++ (G ++ [pt (D + 1) (.loop (rec .ready none)), pt D (.deferred (some []))])) := by
          have := sat_rot (A := [pt (D + 1) (.loop (rec .ready none)), pt D (.deferred (some []))]) (B := K ++ (At ++ G)) h1
          simpa only [List.append_assoc] using this
        have h5 := sat_rot (A := K ++ At) h3
        have h6 := sat_rot (A := [_]) (B := K ++ At) (sat_star h5)
        simpa only [List.append_assoc] using h6
      refine wpIn_mono (has i hi (D + 1) w1 K _ hK hG (fun ⟨a, w, h⟩ => h) m) ?_
      intro e a2 w2 hp
      cases e with
      | normal => ?_
      | ret => exact hp
      | exit id => exact hp
      | goto t => exact hp
      | panic ch => exact hp
      | outgrown => exact hp
      obtain ⟨r, K2, rfl, hM, hw2⟩ := hp
      have h1 : sat g w2 (pt (D + 1) (.loop (rec .ready none)) :: pt D (.deferred (some [])) :: (K2 ++ (At ++ G))) := by
        have h5 := sat_unstar (L := K2 ++ At) (sat_rot (A := K2 ++ At) (B := [_]) (by simpa only [List.append_assoc] using hw2))
        have h6 : sat g w2 (G ++ ([pt (D + 1) (.loop (rec .ready none)), pt D (.deferred (some []))] ++ (K2 ++ At))) := by simpa only [List.append_assoc] using h5
        have h7 := sat_rot h6
        simpa only [List.append_assoc, List.cons_append, List.nil_append] using h7
      have hl1 : w2.heap[D + 1]? = some (.loop (rec .ready none)) := sat_at (i := 0) h1 rfl
      refine ⟨_, run_beginRound hl1 (by rw [hrec]), ?_⟩
      have h2 : sat g (w2.putObj (D + 1) (.loop (rec .busy none))) (pt (D + 1) (.loop (rec .busy none)) :: pt D (.deferred (some [])) :: (K2 ++ (At ++ G))) := turn h1
      have e2 : ({ rec .ready none with state := .busy } : Loop) = rec .busy none := by rw [hrec]
      rw [e2]
      -- what the body sees: K, At, and one assertion for all the rest
      have h3 : sat g (w2.putObj (D + 1) (.loop (rec .busy none))) ((K2 ++ At) ++ (G ++ [pt (D + 1) (.loop (rec .busy none)), pt D (.deferred (some []))])) := by
        have := sat_rot (A := [pt (D + 1) (.loop (rec .busy none)), pt D (.deferred (some []))]) (B := K2 ++ (At ++ G)) h2
        simpa only [List.append_assoc] using this
      have h4 : sat g (w2.putObj (D + 1) (.loop (rec .busy none))) (K2 ++ (At ++ [star (G ++ [pt (D + 1) (.loop (rec .busy none)), pt D (.deferred (some []))])])) := by
        have h5 := sat_rot (A := K2 ++ At) h3
        have h6 := sat_rot (A := [_]) (B := K2 ++ At) (sat_star h5)
        simpa only [List.append_assoc] using h6
      have back : ∀ {w2 : World} {M : List Assn}, sat g w2 (M ++ [star (G ++ [pt (D + 1) (.loop (rec .busy none)), pt D (.deferred (some []))])]) → sat g w2 (pt (D + 1) (.loop (rec .busy none)) :: pt D (.deferred (some [])) :: (M ++ G)) := fun {w2 M} h => by
        have h5 := sat_unstar (L := M) (sat_rot (A := M) (B := [_]) h)
        have h6 : sat g w2 (G ++ ([pt (D + 1) (.loop (rec .busy none)), pt D (.deferred (some []))] ++ M)) := by simpa only [List.append_assoc] using h5
        have h7 := sat_rot h6
        simpa only [List.append_assoc, List.cons_append, List.nil_append] using h7
      have fin : ∀ (jump : Option Code) (w2 : World), w2.heap[D + 1]? = some (.loop (rec .busy none)) →
          (Instr.endRound (D + 1) jump).run P w2 = .ok (.bool jump.isNone) (w2.putObj (D + 1) (.loop (rec (if jump.isNone then .ready else .done) jump))) := fun jump w2 h => by
        have := run_endRound (P := P) jump h
        rw [hrec] at this ⊢
        exact this
      refine wpIn_mono (hbody i hi (D + 1) _ r K2 _ hM h4 (fun ⟨a, w, h⟩ => h) m) ?_
      intro e a3 w3 hp
      cases e with
      | normal =>
        obtain ⟨K2, hK2, h5⟩ := hp
        have h6 := back (M := K2 ++ At) (by simpa only [List.append_assoc] using h5)
        refine ⟨_, _, fin none w3 (sat_at (i := 0) h6 rfl), .inl ⟨rfl, ?_⟩⟩
        have h7 := turn (st2 := .ready) (pe2 := none) h6
        rw [List.append_assoc] at h7
        exact closeJ hK2 h7
      | ret =>
        obtain ⟨K2, hK2, h5⟩ := hp
        have h6 := back (M := K2) h5
        exact ⟨_, _, fin (some .ret) w3 (sat_at (i := 0) h6 rfl), .inr ⟨rfl, closeE hK2 (turn (st2 := .done) (pe2 := some .ret) h6)⟩⟩
      | exit id =>
        obtain ⟨K2, hK2, h5⟩ := hp
        have h6 := back (M := K2) h5
        exact ⟨_, _, fin (some (.exit id)) w3 (sat_at (i := 0) h6 rfl), .inr ⟨rfl, closeE hK2 (turn (st2 := .done) (pe2 := some (.exit id)) h6)⟩⟩
      | goto t => exact hp.elim
      | panic ch => exact hp.elim
      | outgrown => exact hp.elim
    · rintro e w2 ⟨⟨v, rfl⟩, h | ⟨i, hi, h⟩⟩
      · obtain ⟨K, hK, h1⟩ := openJ h
        obtain ⟨w3, hw3, hs3⟩ := endL (st := .ready) (pe := none) (by simp) h1
        exact ⟨none, w3, hw3, hdone D _ K hK hs3⟩
      · obtain ⟨⟨ex, K⟩, hK, h1⟩ := openE h
        obtain ⟨w3, hw3, hs3⟩ := endL (st := .done) (pe := some ex) (by simp) h1
        exact ⟨some ex, w3, hw3, hstop D _ ex i K hi hK hs3 hL _⟩
end
end Go.Proofs.YtehlamblpekmkaaGreatDoor
