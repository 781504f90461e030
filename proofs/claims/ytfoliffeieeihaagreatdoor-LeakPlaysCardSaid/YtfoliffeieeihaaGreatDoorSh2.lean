/-
  Shorter forms still: what the kernel reckons is filled in by itself. No program in sight.
-/
import Derived.Test.YtfoliffeieeihaaGreatDoorShr
namespace Go.Proofs.YtfoliffeieeihaaGreatDoor
abbrev e0 (i : Nat) : Ent := ⟨i, [], none⟩
abbrev e1 (i : Nat) (v : Value) : Ent := ⟨i, [], some v⟩
abbrev e2 (i : Nat) (ls : List Value) : Ent := ⟨i, ls, none⟩
section
variable {r : Option Nat} {P : Program} {Q : Exit → Act → World → Prop} {a : Act} {w : World} {f : Func} {p : List Nat} {ds : List Deferred} {n : Nat} {l : Fr} {c : Code}
end
section
variable {P : Program} {ops : Array Oper} {Q : Exit → Act → World → Prop} {ds : List Deferred} {n : Nat} {l : Fr} {w : World} {rest : List Nat}
end
section
variable {P : Program} {Q : Exit → Act → World → Prop} {g w : World} {n : Nat} {l : Fr} {o : Oper} {ds : List Deferred} {N : Act → World → Prop} {L : List Assn}
theorem yS {b : Nat} {cs : List Value} {t : TypeId} (ks : List (Nat × Value)) (cs' : List Value) (hs : sat g w (Cl b cs t :: L)) (k : ∀ w', sat g w' (Cl b cs' t :: L) → N (mkd ds n l) w') (hr : ansS P (execOp (fe n l) o) = some (.skip, ks.map fun q => ((⟨b, q.1, none⟩ : Addr), q.2)) := by kernel_rfl) (hd : o.dst = none := by kernel_rfl)
    (hk : (ks.all fun q => Nat.blt q.1 cs.length && q.2.oneCell') = true := by kernel_rfl) (hcs : setL cs ks = cs' := by kernel_rfl) : OP P o (mkd ds n l) w N Q :=
  an_store ks hr hd (fun q hq => by
    have := List.all_eq_true.1 hk q hq
    rw [Bool.and_eq_true, nat_blt, decide_eq_true_eq] at this
    exact this) hcs hs k
end
theorem sat_sx {g w : World} {A B : Assn} {L : List Assn} (h : sat g w (A :: B :: L)) : sat g w (B :: A :: L) := by
  obtain ⟨s, Z, hZ, ok, pw⟩ := h
  match Z, hZ with
  | z1 :: z2 :: Z, hZ =>
    simp only [List.map_cons, List.cons.injEq] at hZ
    refine ⟨s, z2 :: z1 :: Z, by simp [hZ.1, hZ.2.1, hZ.2.2], fun z hz => ok z ?_, ?_⟩
    · simp only [List.mem_cons] at hz ⊢
      rcases hz with h1 | h1 | h1
      · exact .inr (.inl h1)
      · exact .inl h1
      · exact .inr (.inr h1)
    · obtain ⟨h1, h2⟩ := List.pairwise_cons.1 pw
      obtain ⟨h3, h4⟩ := List.pairwise_cons.1 h2
      refine List.pairwise_cons.2 ⟨fun z hz => ?_, List.pairwise_cons.2 ⟨fun z hz => h1 z (List.mem_cons_of_mem _ hz), h4⟩⟩
      rcases List.mem_cons.1 hz with rfl | hz
      · exact (h1 z2 List.mem_cons_self).symm
      · exact h3 z hz
section
variable {g w : World}
/-- An assertion is brought to the head. -/
theorem sat_mid {K L : List Assn} {A : Assn} (h : sat g w (K ++ A :: L)) : sat g w (A :: (K ++ L)) := by
  have h1 := sat_rot (A := [A]) (B := star K :: L) (sat_sx (sat_star h))
  have h2 : sat g w (K ++ (L ++ [A])) := sat_unstar h1
  rw [← List.append_assoc] at h2
  exact sat_rot h2
theorem sat_hd {K L : List Assn} (h : sat g w (K ++ L)) : sat g w K := sat_sel_tail (sat_star (sat_rot h))
variable {A0 A1 A2 A3 A4 A5 A6 A7 A8 A9 A10 A11 A12 A13 A14 A15 A16 A17 A18 A19 A20 A21 A22 A23 A24 A25 : Assn} {L : List Assn}
theorem sf1 (h : sat g w (A0 :: A1 :: L)) : sat g w (A1 :: A0 :: L) := sat_mid (K := [A0]) h
theorem sf2 (h : sat g w (A0 :: A1 :: A2 :: L)) : sat g w (A2 :: A0 :: A1 :: L) := sat_mid (K := [A0, A1]) h
theorem sf3 (h : sat g w (A0 :: A1 :: A2 :: A3 :: L)) : sat g w (A3 :: A0 :: A1 :: A2 :: L) := sat_mid (K := [A0, A1, A2]) h
theorem sf4 (h : sat g w (A0 :: A1 :: A2 :: A3 :: A4 :: L)) : sat g w (A4 :: A0 :: A1 :: A2 :: A3 :: L) := sat_mid (K := [A0, A1, A2, A3]) h
theorem sf5 (h : sat g w (A0 :: A1 :: A2 :: A3 :: A4 :: A5 :: L)) : sat g w (A5 :: A0 :: A1 :: A2 :: A3 :: A4 :: L) := sat_mid (K := [A0, A1, A2, A3, A4]) h
theorem sf6 (h : sat g w (A0 :: A1 :: A2 :: A3 :: A4 :: A5 :: A6 :: L)) : sat g w (A6 :: A0 :: A1 :: A2 :: A3 :: A4 :: A5 :: L) := sat_mid (K := [A0, A1, A2, A3, A4, A5]) h
theorem sf7 (h : sat g w (A0 :: A1 :: A2 :: A3 :: A4 :: A5 :: A6 :: A7 :: L)) : sat g w (A7 :: A0 :: A1 :: A2 :: A3 :: A4 :: A5 :: A6 :: L) := sat_mid (K := [A0, A1, A2, A3, A4, A5, A6]) h
theorem sf8 (h : sat g w (A0 :: A1 :: A2 :: A3 :: A4 :: A5 :: A6 :: A7 :: A8 :: L)) : sat g w (A8 :: A0 :: A1 :: A2 :: A3 :: A4 :: A5 :: A6 :: A7 :: L) := sat_mid (K := [A0, A1, A2, A3, A4, A5, A6, A7]) h
theorem tk1 (h : sat g w (A0 :: L)) : sat g w [A0] := sat_hd (K := [A0]) h
theorem tk2 (h : sat g w (A0 :: A1 :: L)) : sat g w [A0, A1] := sat_hd (K := [A0, A1]) h
theorem tk3 (h : sat g w (A0 :: A1 :: A2 :: L)) : sat g w [A0, A1, A2] := sat_hd (K := [A0, A1, A2]) h
theorem tk4 (h : sat g w (A0 :: A1 :: A2 :: A3 :: L)) : sat g w [A0, A1, A2, A3] := sat_hd (K := [A0, A1, A2, A3]) h
theorem tk5 (h : sat g w (A0 :: A1 :: A2 :: A3 :: A4 :: L)) : sat g w [A0, A1, A2, A3, A4] := sat_hd (K := [A0, A1, A2, A3, A4]) h
theorem tk6 (h : sat g w (A0 :: A1 :: A2 :: A3 :: A4 :: A5 :: L)) : sat g w [A0, A1, A2, A3, A4, A5] := sat_hd (K := [A0, A1, A2, A3, A4, A5]) h
theorem tk7 (h : sat g w (A0 :: A1 :: A2 :: A3 :: A4 :: A5 :: A6 :: L)) : sat g w [A0, A1, A2, A3, A4, A5, A6] := sat_hd (K := [A0, A1, A2, A3, A4, A5, A6]) h
theorem tk8 (h : sat g w (A0 :: A1 :: A2 :: A3 :: A4 :: A5 :: A6 :: A7 :: L)) : sat g w [A0, A1, A2, A3, A4, A5, A6, A7] := sat_hd (K := [A0, A1, A2, A3, A4, A5, A6, A7]) h
theorem tk9 (h : sat g w (A0 :: A1 :: A2 :: A3 :: A4 :: A5 :: A6 :: A7 :: A8 :: L)) : sat g w [A0, A1, A2, A3, A4, A5, A6, A7, A8] := sat_hd (K := [A0, A1, A2, A3, A4, A5, A6, A7, A8]) h
theorem ap0 (h : sat g w ([] ++ L)) : sat g w (L) := h
theorem ap1 (h : sat g w ([A0] ++ L)) : sat g w (A0 :: L) := h
theorem ap2 (h : sat g w ([A0, A1] ++ L)) : sat g w (A0 :: A1 :: L) := h
theorem ap4 (h : sat g w ([A0, A1, A2, A3] ++ L)) : sat g w (A0 :: A1 :: A2 :: A3 :: L) := h
end
end Go.Proofs.YtfoliffeieeihaaGreatDoor
