/- Walks, printed by my generator P:../out/o1.py. -/
import Derived.Test.YtehlamblpekmkaaGreatDoorBundle29
import Derived.Test.YtehlamblpekmkaaGreatDoorBundle32
import Derived.Test.YtehlamblpekmkaaGreatDoorMen
import Derived.Test.YtehlamblpekmkaaGreatDoorYdr
namespace Go.Proofs.YtehlamblpekmkaaGreatDoor
set_option maxHeartbeats 4000000
section
variable {a b c : Value} {V : List Int} {q k : Nat} {v u : Int}
theorem rget {V : List Int} {q : Nat} {v : Int} (h : V[q]? = some v) : (fl eI V)[q]? = some (.int .i64 v) := by
  have := fl_get eI_ok (j := 0) (v := .int .i64 v) h rfl
  simpa using this
theorem rset : ∀ (V : List Int) (q : Nat) (u : Int), (fl eI V).set q (.int .i64 u) = fl eI (V.set q u)
  | [], q, u => rfl
  | x :: V, 0, u => rfl
  | x :: V, q + 1, u => by
    show (Value.int .i64 x) :: (fl eI V).set q _ = (Value.int .i64 x) :: fl eI (V.set q u)
    rw [rset V q u]
theorem row3 (h : V[q]? = some v) (hk : k = 3 + q) : (a :: b :: c :: fl eI V)[k]? = some (.int .i64 v) := by
  subst hk
  rw [Nat.add_comm, List.getElem?_cons_succ, List.getElem?_cons_succ, List.getElem?_cons_succ]
  exact rget h
theorem rlen1 : (a :: fl eI V).length = 1 + V.length := by rw [List.length_cons, fl_len eI_ok]; omega
theorem rlen3 : (a :: b :: c :: fl eI V).length = 3 + V.length := by rw [List.length_cons, List.length_cons, List.length_cons, fl_len eI_ok]; omega
theorem rput1 (hk : k = 1 + q) (_ : q < V.length) : setL (a :: fl eI V) [(k, .int .i64 u)] = a :: fl eI (V.set q u) := by
  subst hk
  simp only [setL]
  rw [Nat.add_comm, List.set_cons_succ, rset]
theorem rput3 (hk : k = 3 + q) (_ : q < V.length) : setL (a :: b :: c :: fl eI V) [(k, .int .i64 u)] = a :: b :: c :: fl eI (V.set q u) := by
  subst hk
  simp only [setL]
  rw [Nat.add_comm, List.set_cons_succ, List.set_cons_succ, List.set_cons_succ, rset]
end
def Pl (b : Nat) (X : Xs) : Assn := fun h => ∃ x : Nat × List Int, (X.length = 64 ∧ Bnd X ∧ Vals X x.2) ∧ star [Cl b (.pointer (some ⟨x.1, 0, none⟩) :: .int .i64 64 :: .int .i64 1048576 :: fl eI x.2) 262, Tb x.1 64 (As X)] h
def Dk (b : Nat) (X : Xs) : Assn := fun h => ∃ x : Nat × List Int, (X.length = 64 ∧ Vals X x.2) ∧ star [Cl b (.pointer (some ⟨x.1, 0, none⟩) :: fl eI x.2) 265, Tb x.1 64 (As X)] h
def Lg (b : Nat) (T : List At) : Assn := fun h => ∃ x : Option Addr × Nat × Nat, T.length ≤ 10000 ∧ star [Cl b [.slice x.1 T.length x.2.1, .map (some x.2.2)] 130, Sl 74 6 x.1 T.length x.2.1 (fl eAt T), Ml 3 x.2.2 T.length] h
def Wd (b : Nat) (S : Wst) : Assn := fun h => ∃ x : Nat × Nat × Nat × Nat × Nat, WOk S ∧ star [Cl b [.nilIface, .iface 177 (.pointer (some ⟨x.1, 0, none⟩)), .iface 180 (.pointer (some ⟨x.2.1, 0, none⟩)), .iface 183 (.pointer (some ⟨x.2.2.1, 0, none⟩)), .pointer (some ⟨x.2.2.2.1, 0, none⟩), .pointer (some ⟨x.2.2.2.2, 0, none⟩), .int .i64 S.now] 56,
  Fd x.1 64 S.F, Pl x.2.1 S.B, Dk x.2.2.1 S.D, Sr 239 x.2.2.2.1 S.q, Lg x.2.2.2.2 S.T] h
section
variable {g w : World} {L : List Assn} {b s : Nat} {X Y : Xs} {V : List Int} {S : Wst} {T : List At} {A : List Sl2} {p : Option Addr} {c m n : Nat}
theorem pl_open (h : sat g w (Pl b X :: L)) : ∃ s V, (X.length = 64 ∧ Bnd X ∧ Vals X V) ∧ sat g w (Cl b (.pointer (some ⟨s, 0, none⟩) :: .int .i64 64 :: .int .i64 1048576 :: fl eI V) 262 :: Tb s 64 (As X) :: L) := by
  obtain ⟨⟨s, V⟩, h1, h2⟩ := sat_open (X := Nat × List Int) (p := fun x => X.length = 64 ∧ Bnd X ∧ Vals X x.2) (B := fun x => star [Cl b (.pointer (some ⟨x.1, 0, none⟩) :: .int .i64 64 :: .int .i64 1048576 :: fl eI x.2) 262, Tb x.1 64 (As X)]) h (fun k hk => hk)
  exact ⟨s, V, h1, sat_unstar h2⟩
theorem pl_close (h1 : X.length = 64 ∧ Bnd X ∧ Vals X V) (hA : A = As X) (h : sat g w (Cl b (.pointer (some ⟨s, 0, none⟩) :: .int .i64 64 :: .int .i64 1048576 :: fl eI V) 262 :: Tb s 64 A :: L)) : sat g w (Pl b X :: L) := by
  subst hA
  exact sat_imp (sat_star (K := [Cl b (.pointer (some ⟨s, 0, none⟩) :: .int .i64 64 :: .int .i64 1048576 :: fl eI V) 262, Tb s 64 (As X)]) h) fun k hk => ⟨(s, V), h1, hk⟩
theorem dk_open (h : sat g w (Dk b X :: L)) : ∃ s V, (X.length = 64 ∧ Vals X V) ∧ sat g w (Cl b (.pointer (some ⟨s, 0, none⟩) :: fl eI V) 265 :: Tb s 64 (As X) :: L) := by
  obtain ⟨⟨s, V⟩, h1, h2⟩ := sat_open (X := Nat × List Int) (p := fun x => X.length = 64 ∧ Vals X x.2) (B := fun x => star [Cl b (.pointer (some ⟨x.1, 0, none⟩) :: fl eI x.2) 265, Tb x.1 64 (As X)]) h (fun k hk => hk)
  exact ⟨s, V, h1, sat_unstar h2⟩
theorem dk_close (h1 : X.length = 64 ∧ Vals X V) (hA : A = As X) (h : sat g w (Cl b (.pointer (some ⟨s, 0, none⟩) :: fl eI V) 265 :: Tb s 64 A :: L)) : sat g w (Dk b X :: L) := by
  subst hA
  exact sat_imp (sat_star (K := [Cl b (.pointer (some ⟨s, 0, none⟩) :: fl eI V) 265, Tb s 64 (As X)]) h) fun k hk => ⟨(s, V), h1, hk⟩
theorem lg_open (h : sat g w (Lg b T :: L)) : ∃ p c m, T.length ≤ 10000 ∧ sat g w (Cl b [.slice p T.length c, .map (some m)] 130 :: Sl 74 6 p T.length c (fl eAt T) :: Ml 3 m T.length :: L) := by
  obtain ⟨⟨p, c, m⟩, h1, h2⟩ := sat_open (X := Option Addr × Nat × Nat) (p := fun _ => T.length ≤ 10000) (B := fun x => star [Cl b [.slice x.1 T.length x.2.1, .map (some x.2.2)] 130, Sl 74 6 x.1 T.length x.2.1 (fl eAt T), Ml 3 x.2.2 T.length]) h (fun k hk => by
    obtain ⟨x, h1, h2⟩ := hk
    exact ⟨x, h1, h2⟩)
  exact ⟨p, c, m, h1, sat_unstar h2⟩
theorem lg_close (h1 : T.length ≤ 10000) (hn : n = T.length) (h : sat g w (Cl b [.slice p n c, .map (some m)] 130 :: Sl 74 6 p n c (fl eAt T) :: Ml 3 m n :: L)) : sat g w (Lg b T :: L) := by
  subst hn
  exact sat_imp (sat_star (K := [Cl b [.slice p T.length c, .map (some m)] 130, Sl 74 6 p T.length c (fl eAt T), Ml 3 m T.length]) h) fun k hk => ⟨(p, c, m), h1, hk⟩
theorem wd_open (h : sat g w (Wd b S :: L)) : ∃ f p d s l, WOk S ∧ sat g w (Cl b [.nilIface, .iface 177 (.pointer (some ⟨f, 0, none⟩)), .iface 180 (.pointer (some ⟨p, 0, none⟩)), .iface 183 (.pointer (some ⟨d, 0, none⟩)), .pointer (some ⟨s, 0, none⟩), .pointer (some ⟨l, 0, none⟩), .int .i64 S.now] 56 :: Fd f 64 S.F :: Pl p S.B :: Dk d S.D :: Sr 239 s S.q :: Lg l S.T :: L) := by
  obtain ⟨⟨f, p, d, s, l⟩, h1, h2⟩ := sat_open (X := Nat × Nat × Nat × Nat × Nat) (p := fun _ => WOk S) (B := fun x => star [Cl b [.nilIface, .iface 177 (.pointer (some ⟨x.1, 0, none⟩)), .iface 180 (.pointer (some ⟨x.2.1, 0, none⟩)), .iface 183 (.pointer (some ⟨x.2.2.1, 0, none⟩)), .pointer (some ⟨x.2.2.2.1, 0, none⟩), .pointer (some ⟨x.2.2.2.2, 0, none⟩), .int .i64 S.now] 56,
    Fd x.1 64 S.F, Pl x.2.1 S.B, Dk x.2.2.1 S.D, Sr 239 x.2.2.2.1 S.q, Lg x.2.2.2.2 S.T]) h (fun k hk => hk)
  exact ⟨f, p, d, s, l, h1, sat_unstar h2⟩
theorem wd_close {f p d s l : Nat} (h1 : WOk S) (h : sat g w (Cl b [.nilIface, .iface 177 (.pointer (some ⟨f, 0, none⟩)), .iface 180 (.pointer (some ⟨p, 0, none⟩)), .iface 183 (.pointer (some ⟨d, 0, none⟩)), .pointer (some ⟨s, 0, none⟩), .pointer (some ⟨l, 0, none⟩), .int .i64 S.now] 56 :: Fd f 64 S.F :: Pl p S.B :: Dk d S.D :: Sr 239 s S.q :: Lg l S.T :: L)) : sat g w (Wd b S :: L) :=
  sat_imp (sat_star (K := [Cl b [.nilIface, .iface 177 (.pointer (some ⟨f, 0, none⟩)), .iface 180 (.pointer (some ⟨p, 0, none⟩)), .iface 183 (.pointer (some ⟨d, 0, none⟩)), .pointer (some ⟨s, 0, none⟩), .pointer (some ⟨l, 0, none⟩), .int .i64 S.now] 56, Fd f 64 S.F, Pl p S.B, Dk d S.D, Sr 239 s S.q, Lg l S.T]) h) fun k hk => ⟨(f, p, d, s, l), h1, hk⟩
theorem wd_ok {j : Nat} (h : sat g w L) (hj : L[j]? = some (Wd b S)) : WOk S := sat_use h hj fun _ ha _ => by
  obtain ⟨x, h1, _⟩ := ha
  exact h1
end
end Go.Proofs.YtehlamblpekmkaaGreatDoor

/- Walks, printed by my generator P:../out/o2.py. -/
namespace Go.Proofs.YtehlamblpekmkaaGreatDoor
set_option maxHeartbeats 4000000
theorem pvalid_cl (b s : Nat) (Y : List Value) : HT Tryz.prog 190 [pV b] [Cl b ((pV s) :: Y) 262] (fun v K => v = .bool true ∧ K = [Cl b ((pV s) :: Y) 262]) := by
 refine hiS Tryz.func190 Tryz.ntmps190 fun g w0 R h0 => go [rd 1 6 0 0 1 h0] ?_
 exact en (.bool true) [] ⟨_, _, rfl, ⟨rfl, rfl⟩, h0⟩

theorem pl_new {g w : World} {L : List Assn} {b s : Nat} {gn : Int} (h : sat g w (Cl b [.pointer (some ⟨s, 0, none⟩), .int .i64 64, .int .i64 1048576, .int .i64 0, .int .i64 0, .int .i64 0, .int .i64 0, .int .i64 0, .int .i64 0, .int .i64 0, .int .i64 0, .int .i64 0, .int .i64 0, .int .i64 0, .int .i64 0, .int .i64 0, .int .i64 0, .int .i64 0, .int .i64 0, .int .i64 0, .int .i64 0, .int .i64 0, .int .i64 0, .int .i64 0, .int .i64 0, .int .i64 0, .int .i64 0, .int .i64 0, .int .i64 0, .int .i64 0, .int .i64 0, .int .i64 0, .int .i64 0, .int .i64 0, .int .i64 0, .int .i64 0, .int .i64 0, .int .i64 0, .int .i64 0, .int .i64 0, .int .i64 0, .int .i64 0, .int .i64 0, .int .i64 0, .int .i64 0, .int .i64 0, .int .i64 0, .int .i64 0, .int .i64 0, .int .i64 0, .int .i64 0, .int .i64 0, .int .i64 0, .int .i64 0, .int .i64 0, .int .i64 0, .int .i64 0, .int .i64 0, .int .i64 0, .int .i64 0, .int .i64 0, .int .i64 0, .int .i64 0, .int .i64 0, .int .i64 0, .int .i64 0, .int .i64 0] 262 :: Tb s 64 (List.replicate 64 (0, gn)) :: L)) : sat g w (Pl b (List.replicate 64 (0, gn, 0)) :: L) := by
  have e : ([.pointer (some ⟨s, 0, none⟩), .int .i64 64, .int .i64 1048576, .int .i64 0, .int .i64 0, .int .i64 0, .int .i64 0, .int .i64 0, .int .i64 0, .int .i64 0, .int .i64 0, .int .i64 0, .int .i64 0, .int .i64 0, .int .i64 0, .int .i64 0, .int .i64 0, .int .i64 0, .int .i64 0, .int .i64 0, .int .i64 0, .int .i64 0, .int .i64 0, .int .i64 0, .int .i64 0, .int .i64 0, .int .i64 0, .int .i64 0, .int .i64 0, .int .i64 0, .int .i64 0, .int .i64 0, .int .i64 0, .int .i64 0, .int .i64 0, .int .i64 0, .int .i64 0, .int .i64 0, .int .i64 0, .int .i64 0, .int .i64 0, .int .i64 0, .int .i64 0, .int .i64 0, .int .i64 0, .int .i64 0, .int .i64 0, .int .i64 0, .int .i64 0, .int .i64 0, .int .i64 0, .int .i64 0, .int .i64 0, .int .i64 0, .int .i64 0, .int .i64 0, .int .i64 0, .int .i64 0, .int .i64 0, .int .i64 0, .int .i64 0, .int .i64 0, .int .i64 0, .int .i64 0, .int .i64 0, .int .i64 0, .int .i64 0] : List Value) = (.pointer (some ⟨s, 0, none⟩) :: .int .i64 64 :: .int .i64 1048576 :: fl eI (List.replicate 64 0)) := by kernel_rfl
  rw [e] at h
  exact pl_close (V := List.replicate 64 0) ⟨List.length_replicate, rep_bnd, vals_new⟩ (as_rep 64 gn 0) h

theorem pnew_ht (gn : Int) (hgn : 1 ≤ gn ∧ gn ≤ 4294967295) : HT Tryz.prog 99 [iV 64, iV 1048576, uV gn] [] (fun v K => ∃ b : Nat, v = .tuple #[pV b, iV 0] ∧ K = [Pl b (List.replicate 64 (0, gn, 0))]) := by
 refine hiS Tryz.func99 Tryz.ntmps99 fun g w0 R h0 => go [.v 1 16 (oF (gn < 1))] <| cP Tryz.call96 (snew_ok 64 (by omega) gn (by omega)) h0 ?_
 rintro v K _ (⟨b10, rfl, rfl⟩) h12
 have h13 := ap1 h12
 refine go [] <| nP 262 [pV b10, iV 64, iV 1048576, iV 0, iV 0, iV 0, iV 0, iV 0, iV 0, iV 0, iV 0, iV 0, iV 0, iV 0, iV 0, iV 0, iV 0, iV 0, iV 0, iV 0, iV 0, iV 0, iV 0, iV 0, iV 0, iV 0, iV 0, iV 0, iV 0, iV 0, iV 0, iV 0, iV 0, iV 0, iV 0, iV 0, iV 0, iV 0, iV 0, iV 0, iV 0, iV 0, iV 0, iV 0, iV 0, iV 0, iV 0, iV 0, iV 0, iV 0, iV 0, iV 0, iV 0, iV 0, iV 0, iV 0, iV 0, iV 0, iV 0, iV 0, iV 0, iV 0, iV 0, iV 0, iV 0, iV 0, iV 0] h13 (fun r14 w15 h16 => ?_)
 refine go [] ?_
 have h17 : sat g w15 [Pl r14 (List.replicate 64 (0, gn, 0)), R] := pl_new h16
 exact en (.tuple #[pV r14, iV 0]) [] ⟨_, _, rfl, ⟨r14, rfl, rfl⟩, h17⟩

theorem row3_one {s : Nat} {y z : Int} {V : List Int} : ∀ v ∈ (Value.pointer (some ⟨s, 0, none⟩) :: Value.int .i64 y :: Value.int .i64 z :: fl eI V), v.oneCell' = true := fun v hv => by
  rcases List.mem_cons.1 hv with rfl | hv
  · rfl
  · rcases List.mem_cons.1 hv with rfl | hv
    · rfl
    · rcases List.mem_cons.1 hv with rfl | hv
      · rfl
      · exact fl_one eI_ok V v hv

theorem pcopy_ht (b : Nat) (X : Xs) : HT Tryz.prog 115 [pV b] [Pl b X] (fun v K => ∃ b2 : Nat, v = pV b2 ∧ K = [Pl b X, Pl b2 X]) := by
 refine hiS Tryz.func115 Tryz.ntmps115 fun g w0 R h0 => ?_
 obtain ⟨s10, V11, hP12, h13⟩ := pl_open h0
 have hb14 := tb_bd (j := 1) h13 rfl
 have hAl_ := hb14.1; have hok_ := hb14.2.2.2
 refine go [] <| cl1 Tryz.call190 (pvalid_cl b s10 ((iV 64) :: (iV 1048576) :: fl eI V11)) h13 fun _ h16 => go [.s 3 2] <| lwP (.agg ((pV s10) :: (iV 64) :: (iV 1048576) :: fl eI V11).toArray) (law_loadRow (x := (Operand.tmp 8)) (by kernel_rfl) 0 h16 rfl _ rfl Tryz.underlying262 (by rw [rlen3, hP12.2.2.1]; kernel_rfl) (by kernel_rfl)) ?_
 refine nP 262 [.pointer none, iV 0, iV 0, iV 0, iV 0, iV 0, iV 0, iV 0, iV 0, iV 0, iV 0, iV 0, iV 0, iV 0, iV 0, iV 0, iV 0, iV 0, iV 0, iV 0, iV 0, iV 0, iV 0, iV 0, iV 0, iV 0, iV 0, iV 0, iV 0, iV 0, iV 0, iV 0, iV 0, iV 0, iV 0, iV 0, iV 0, iV 0, iV 0, iV 0, iV 0, iV 0, iV 0, iV 0, iV 0, iV 0, iV 0, iV 0, iV 0, iV 0, iV 0, iV 0, iV 0, iV 0, iV 0, iV 0, iV 0, iV 0, iV 0, iV 0, iV 0, iV 0, iV 0, iV 0, iV 0, iV 0, iV 0] h16 (fun r17 _ h19 => ?_)
 refine actG ?_
 refine an_storeRow (t := 262) (x := (Operand.tmp 3)) (y := (Operand.tmp 9)) (cs := ((pV s10) :: (iV 64) :: (iV 1048576) :: fl eI V11)) (by kernel_rfl) (by kernel_rfl) h19 (by rw [rlen3, hP12.2.2.1]; kernel_rfl) (by rw [rlen3, hP12.2.2.1]; rfl) row3_one (by kernel_rfl) (by kernel_rfl) ?_
 intro _ h21
 refine nxB ?_
 have h23 := tk4 (sf3 (sf2 (sf2 (sf3 h21))))
 refine go [rd 4 3 1 0 1 h21] <| cP Tryz.call182 (scopy_ht s10 64 (As X)) h23 ?_
 rintro v K _ (⟨b22, rfl, rfl⟩) h25
 have h27 := tk5 (sf4 (sf3 (sf3 (sf4 (sf4 (ap2 h25))))))
 refine go [] ?_
 refine actG ?_
 refine an_store [(0, pV b22)] (cs' := ((pV b22) :: (iV 64) :: (iV 1048576) :: fl eI V11)) (by kernel_rfl) (by kernel_rfl) (allq ⟨⟨by simp only [List.length_cons]; omega, rfl⟩, trivial⟩) rfl h27 ?_
 intro w28 h29
 refine nxB <| go [] ?_
 have h31 : sat g w28 [Pl r17 X, Tb s10 64 (As X), Cl b ((pV s10) :: (iV 64) :: (iV 1048576) :: fl eI V11) 262, R] := pl_close hP12 rfl (tk5 (sf4 (sf4 (sf3 (sf4 (sf4 h29))))))
 have h33 : sat g w28 [Pl b X, Pl r17 X, R] := pl_close hP12 rfl (tk4 (sf3 (sf2 (sf1 (sf3 h31)))))
 exact en (pV r17) [] ⟨_, _, rfl, ⟨r17, rfl, rfl⟩, h33⟩

theorem pinned_ht (b : Nat) : HT Tryz.prog 285 [pV b] [] (fun v K => ∃ c, v = .func (Fn.func 292) #[] #[pV c] ∧ K = [Cl c [pV b] 180]) := by
 refine hiS Tryz.func285 Tryz.ntmps285 fun g w0 R h0 => go [] <| nP 180 [pV b] h0 (fun r10 _ h12 => ?_)
 refine go [] ?_
 exact en (.func (Fn.func 292) #[] #[pV r10]) [] ⟨_, _, rfl, ⟨r10, rfl, rfl⟩, h12⟩

theorem pinned_it (c b : Nat) (X : Xs) : IT Tryz.prog 292 [Value.pointer (some ⟨c, 0, none⟩)] (((inS 1 (As X) 0).length)) ((fun i => [Value.agg #[Value.int .i64 2, Value.int .i64 ((slI X i : Nat) : Int), Value.int .u32 (slG X i)], Value.int .i64 (vaA X (slI X i))])) [Cl c [Value.pointer (some ⟨b, 0, none⟩)] 180, Pl b X] := by
 refine it_in 34 (fun k_ => ([(0, .func (Fn.yield k_) #[] #[]), (1, pV c)] : Fr)) Tryz.func292 (by kernel_rfl) Tryz.ntmps292 rfl (fun _ => rfl) ?_
 intro g w0 R k_ J_ E_ hY h0
 have h1 : sat g w0 [J_ 0, Cl c [pV b] 180, Pl b X, R] := h0
 change WP _ _ (CA Tryz.f292 []) _ (mk 34 (([(0, .func (Fn.yield k_) #[] #[]), (1, pV c)] : Fr))) _
 refine ySq ?_
 refine ySq ?_
 refine yPl [0, 1, 2] ?_
 refine yBb [1, 2] [(5, pV b)] [e2 0 [pV b]] [(0, ⟨c, 0, none⟩, pV b)] [] trivial (kC (sat_cell h1 1 rfl rfl) nC) ?_
 have h2 := tk4 (sf3 (sf2 (sf2 (sf3 h1))))
 obtain ⟨s3, V4, hP5, h6⟩ := pl_open h2
 have hb7 := tb_bd (j := 1) h6 rfl
 have hAl_ := hb7.1; have hok_ := hb7.2.2.2
 refine yA ?_
 refine yCl 6 Tryz.call190 (pvalid_cl b s3 ((iV 64) :: (iV 1048576) :: fl eI V4)) h6 ?_
 rintro v K w8 (⟨rfl, rfl⟩) h9
 refine ⟨_, rfl, ?_⟩
 have h10 := ap1 h9
 refine yB0 [] [2] [(7, .bool false)] (.mk ?_)
 refine yK [(0, .func (Fn.yield k_) #[] #[]), (1, pV c), (7, .bool false)] fun lr11 => ?_
 refine yCf ?_
 refine ySk ?_
 refine ySq ?_
 refine yPl [0, 1, 2, 3, 4, 5, 6] ?_
 refine yBb [4, 5, 6] [(11, pV s3), (10, pV b), (9, pV b), (8, pV b)] [e2 0 [pV b], e0 1, e0 2, e2 3 [pV s3]] [(3, ⟨b, 0, none⟩, pV s3), (0, ⟨c, 0, none⟩, pV b)] [] trivial (kC (sat_cell h10 0 rfl rfl) (kC (sat_cell h10 3 rfl rfl) nC)) ?_
 have h14 := tk5 (sf4 (sf3 (sf4 (sf4 (sf4 h10)))))
 refine yA ?_
 refine yCl 12 Tryz.call293 (taken_ht s3 64 (As X)) h14 ?_
 rintro v K w15 (⟨p12, c13, rfl, rfl⟩) h16
 refine ⟨_, rfl, ?_⟩
 have h17 := ap2 h16
 refine yB0 [] [5, 6] [(14, iV 0), (13, iV ((((inS 1 (As X) 0).length : Nat) : Int)))] (.mk ?_)
 refine yK [(0, .func (Fn.yield k_) #[] #[]), (1, pV c), (12, .slice p12 (((inS 1 (As X) 0).length)) c13), (13, iV ((((inS 1 (As X) 0).length : Nat) : Int))), (14, iV 0)] fun lr18 => ?_
 refine yBk 0 ?_
 have h19 := tk6 (sf5 (sf4 (sf4 (sf5 (sf5 (sf5 h17))))))
 have h20 : sat g w15 [Pl b X, Sl 148 2 p12 (((inS 1 (As X) 0).length)) c13 (fl eRf (inS 1 (As X) 0)), J_ 0, Cl c [pV b] 180, R] := pl_close hP5 rfl h19
 have hl_ : ((inS 1 (As X) 0).length) ≤ 64 := by have h1_ := inS_len 1 (As X) 0; omega
 have h21 := tk5 (sf4 (sf4 (sf2 (sf2 (sf4 h20)))))
 refine gi_lp (x := CA Tryz.f292 [1, 1, 0, 0]) (by kernel_rfl) (fun mz_ a w => ∃ i : Nat, ∃ lr : Fr, mz_ = ((inS 1 (As X) 0).length) - i ∧ (i ≤ ((inS 1 (As X) 0).length)) ∧ a = mk 34 (([(0, .func (Fn.yield k_) #[] #[]), (1, pV c), (12, .slice p12 (((inS 1 (As X) 0).length)) c13), (13, iV ((((inS 1 (As X) 0).length : Nat) : Int))), (14, iV (i : Int))] : Fr) ++ lr) ∧ sat g w [J_ i, Cl c [pV b] 180, Pl b X, Sl 148 2 p12 (((inS 1 (As X) 0).length)) c13 (fl eRf (inS 1 (As X) 0)), R]) (((inS 1 (As X) 0).length) - 0) ⟨0, _, rfl, (Nat.zero_le _), (mk_live [(0, .func (Fn.yield k_) #[] #[]), (1, pV c), (12, .slice p12 (((inS 1 (As X) 0).length)) c13), (13, iV ((((inS 1 (As X) 0).length : Nat) : Int))), (14, iV (0 : Int))] ⟨rfl, rfl, rfl, rfl, (ov_int (by omega)), trivial⟩), h21⟩ ?_
 rintro m23 a24 w25 ⟨i, lr22, rfl, hi, rfl, h26⟩
 refine ySq ?_
 refine yPl [0] ?_
 by_cases c27 : (i : Int) < (((inS 1 (As X) 0).length : Nat) : Int)
 ·
  refine yBb [] [(15, .bool true)] [e1 0 (.bool true)] [] [(.bool (decide ((i : Int) < (((inS 1 (As X) 0).length : Nat) : Int))), .bool true)] ⟨(ov_t (by omega)), trivial⟩ nC (.mk ?_)
  refine yK [(0, .func (Fn.yield k_) #[] #[]), (1, pV c), (12, .slice p12 (((inS 1 (As X) 0).length)) c13), (13, iV ((((inS 1 (As X) 0).length : Nat) : Int))), (14, iV (i : Int)), (15, .bool true)] fun lr28 => ?_
  refine ySq ?_
  refine yCt ?_
  refine ySk ?_
  refine ySq ?_
  refine yBk 1 ?_
  refine ySq ?_
  refine yPl [0, 1, 2, 3] ?_
  obtain ⟨b29, hp30⟩ := sl_ptr0 (j := 3) h26 rfl (by omega)
  refine plain_law (i := 0) 16 (.pointer (some ⟨b29, i * 2, none⟩)) (by kernel_rfl) (law_indexSlP (o := opA (RA Tryz.f292 [1, 1, 0, 0, 1, 1, 0, 0, 0]) 0) (x := (Operand.tmp 12)) (i := (Operand.tmp 14)) (p := p12) (b := b29) (off := 0) (z := (i : Int)) (len := (((inS 1 (As X) 0).length))) (cap := c13) (by kernel_rfl) Tryz.underlying375 2 (by kernel_rfl) i (by kernel_rfl) hp30 (by kernel_rfl) (by omega) (by omega) (i * 2) (by omega) _) ?_
  have h31 := tk5 (sf4 (sf3 (sf3 (sf3 (sf4 h26)))))
  have hl32 := fl_n eRf_ok (by decide) h31
  have hx33 : (inS 1 (As X) 0)[i]? = some (slI X i, slG X i) := by unfold slI slG; rw [List.getElem?_eq_getElem (by omega), getD_some (List.getElem?_eq_getElem (by omega))]
  have hs34 := sl_lt (X := X) (i := i) (by omega); have hs34b := hP5.1
  refine yBb [2, 3] [(17, .agg #[iV (((slI X i : Nat) : Int)), uV ((slG X i))])] [e2 1 [iV (((slI X i : Nat) : Int)), uV ((slG X i))]] [(1, ⟨b29, i * 2, none⟩, iV (((slI X i : Nat) : Int))), (1, ⟨b29, i * 2 + 1, none⟩, uV ((slG X i)))] [] trivial (kC (gv_cell (j := 0) h31 rfl (gv_sl _ _ _) hp30 (fl_get eRf_ok (j := 0) (v := iV (((slI X i : Nat) : Int))) hx33 rfl) (i * 2) (by omega)) (kC (gv_cell (j := 0) h31 rfl (gv_sl _ _ _) hp30 (fl_get eRf_ok (j := 1) (v := uV ((slG X i))) hx33 rfl) (i * 2 + 1) (by omega)) nC)) ?_
  refine yA ?_
  refine yNp 4 148 [iV 0, uV 0] h31 fun r35 w36 h37 => ?_
  refine yA ?_
  refine yS [(0, iV (((slI X i : Nat) : Int))), (1, uV ((slG X i)))] [iV (((slI X i : Nat) : Int)), uV ((slG X i))] h37 fun w38 h39 => ?_
  refine PO.mk ?_
  refine yK [(0, .func (Fn.yield k_) #[] #[]), (1, pV c), (4, pV r35), (12, .slice p12 (((inS 1 (As X) 0).length)) c13), (13, iV ((((inS 1 (As X) 0).length : Nat) : Int))), (14, iV (i : Int))] fun lr40 => ?_
  refine ySq ?_
  refine gi_dry (id := 4) (ops := RA Tryz.f292 [1, 1, 0, 0, 1, 1, 0, 0, 1, 0]) (Tr.fl 0 (Tr.fl 1 (Tr.fl 2 (Tr.fl 3 (Tr.fl 4 (Tr.fl 5 (Tr.fl 6 (Tr.fl 7 (Tr.fl 8 (Tr.fl 9 (Tr.fl 10 (Tr.fl 11 (Tr.fl 12 (Tr.an 13 (Tr.fl 14 Tr.nil))))))))))))))) (by kernel_rfl) (by kernel_rfl) (by kernel_rfl) (by kernel_rfl) (fun _ _ d _ _ h => by cases d <;> exact h) h39 ?_
  intro w41 h42
  refine yr_batch (t := (Tr.fl 11 (Tr.fl 12 (Tr.an 13 (Tr.fl 14 Tr.nil))))) [⟨0, [], none⟩, ⟨1, [], none⟩, ⟨2, [iV (((slI X i : Nat) : Int))], none⟩, ⟨3, [], none⟩, ⟨4, [uV ((slG X i))], none⟩, ⟨5, [], none⟩, ⟨6, [pV b], none⟩, ⟨7, [], none⟩, ⟨8, [iV (((slI X i : Nat) : Int))], none⟩, ⟨9, [], none⟩, ⟨10, [], none⟩] (l' := ([(28, .pointer (some ⟨b, 3, none⟩)), (27, pV b), (26, iV (((slI X i : Nat) : Int))), (25, pV r35), (24, pV b), (23, .agg #[iV 2, iV (((slI X i : Nat) : Int)), uV ((slG X i))]), (22, uV ((slG X i))), (21, .pointer (some ⟨r35, 1, none⟩)), (20, iV (((slI X i : Nat) : Int))), (19, pV r35), (18, .func (Fn.yield k_) #[] #[]), (0, .func (Fn.yield k_) #[] #[]), (1, pV c), (4, pV r35), (12, .slice p12 (((inS 1 (As X) 0).length)) c13), (13, iV ((((inS 1 (As X) 0).length : Nat) : Int))), (14, iV (i : Int))] : Fr) ++ lr40) (pts' := [(8, ⟨r35, 0, none⟩, iV (((slI X i : Nat) : Int))), (6, ⟨c, 0, none⟩, pV b), (4, ⟨r35, 1, none⟩, uV ((slG X i))), (2, ⟨r35, 0, none⟩, iV (((slI X i : Nat) : Int)))]) (eqs := []) (by kernel_rfl) trivial (AllC_cons (sat_cell h42 0 rfl rfl) (AllC_cons (sat_cell h42 3 rfl rfl) (AllC_cons (sat_cell h42 0 rfl rfl) (AllC_cons (sat_cell h42 0 rfl rfl) (AllC_nil _))))) ?_
  refine yr_law (i := 11) 29 (.pointer (some ⟨b, (slI X i) + 3, none⟩)) (by kernel_rfl) (fun _ => law_indexArr (o := opA (RA Tryz.f292 [1, 1, 0, 0, 1, 1, 0, 0, 1, 0]) 11) (x := (Operand.tmp 28)) (i := (Operand.tmp 26)) (b := b) (off := 3) (z := (((slI X i : Nat) : Int))) (by kernel_rfl) Tryz.underlying260 1 (by kernel_rfl) ((slI X i)) (by kernel_rfl) (by kernel_rfl) (by omega) (by omega) ((slI X i) + 3) (by omega) _) ?_
  have h43 := tk6 (sf5 (sf4 (sf4 (sf4 (sf4 (sf5 h42))))))
  obtain ⟨s44, V45, hP46, h47⟩ := pl_open h43
  have hb48 := tb_bd (j := 1) h47 rfl
  have hAl_ := hb48.1; have hok_ := hb48.2.2.2
  obtain ⟨x49, hx50⟩ : ∃ x : Int, V45[(slI X i)]? = some x := ⟨_, List.getElem?_eq_getElem (by rw [hP46.2.2.1]; omega)⟩
  have hv51 := vals_at hP46.2.2 (sl_at (X := X) (i := i) (by omega)) hx50
  refine yr_batch (t := (Tr.an 13 (Tr.fl 14 Tr.nil))) [⟨12, [iV x49], none⟩] (l' := ([(30, iV x49), (29, .pointer (some ⟨b, (slI X i) + 3, none⟩)), (28, .pointer (some ⟨b, 3, none⟩)), (27, pV b), (26, iV (((slI X i : Nat) : Int))), (25, pV r35), (24, pV b), (23, .agg #[iV 2, iV (((slI X i : Nat) : Int)), uV ((slG X i))]), (22, uV ((slG X i))), (21, .pointer (some ⟨r35, 1, none⟩)), (20, iV (((slI X i : Nat) : Int))), (19, pV r35), (18, .func (Fn.yield k_) #[] #[]), (0, .func (Fn.yield k_) #[] #[]), (1, pV c), (4, pV r35), (12, .slice p12 (((inS 1 (As X) 0).length)) c13), (13, iV ((((inS 1 (As X) 0).length : Nat) : Int))), (14, iV (i : Int))] : Fr) ++ lr40) (pts' := [(12, ⟨b, (slI X i) + 3, none⟩, iV x49)]) (eqs := []) (by kernel_rfl) trivial (AllC_cons (sat_cell h47 0 rfl (row3 hx50 (by omega))) (AllC_nil _)) ?_
  have h52 : sat g w41 [Pl b X, Cl r35 [iV (((slI X i : Nat) : Int)), uV ((slG X i))] 148, Sl 148 2 p12 (((inS 1 (As X) 0).length)) c13 (fl eRf (inS 1 (As X) 0)), J_ i, Cl c [pV b] 180, R] := pl_close hP46 rfl h47
  have h53 := tk6 (sf5 (sf5 (sf3 (sf3 (sf3 (sf5 h52))))))
  refine yr_yield (d := some 31) (k := k_) (args := [Value.agg #[Value.int IntKind.i64 2, Value.int IntKind.i64 (((slI X i : Nat) : Int)), Value.int IntKind.u32 ((slG X i))], Value.int IntKind.i64 x49]) (xa := ((fun i => [Value.agg #[Value.int .i64 2, Value.int .i64 ((slI X i : Nat) : Int), Value.int .u32 (slG X i)], Value.int .i64 (vaA X (slI X i))])) i) (S1 := fun w => sat g w [J_ (i + 1), Cl c [Value.pointer (some ⟨b, 0, none⟩)] 180, Pl b X, Cl r35 [Value.int IntKind.i64 (((slI X i : Nat) : Int)), Value.int IntKind.u32 ((slG X i))] 148, Sl 148 2 p12 (((inS 1 (As X) 0).length)) c13 (fl eRf (inS 1 (As X) 0)), R]) (S2 := fun w => sat g w [E_ i, Cl r35 [Value.int IntKind.i64 (((slI X i : Nat) : Int)), Value.int IntKind.u32 ((slG X i))] 148, Sl 148 2 p12 (((inS 1 (As X) 0).length)) c13 (fl eRf (inS 1 (As X) 0)), R]) (by kernel_rfl) (by kernel_rfl) (by kernel_rfl) (by kernel_rfl) (by kernel_rfl) ((by show [Value.agg #[Value.int .i64 2, Value.int .i64 ((slI X i : Nat) : Int), Value.int .u32 (slG X i)], Value.int .i64 (vaA X (slI X i))] = _; rw [← hv51])) (hY i ((by omega)) _ [Cl r35 [Value.int IntKind.i64 (((slI X i : Nat) : Int)), Value.int IntKind.u32 ((slG X i))] 148, Sl 148 2 p12 (((inS 1 (As X) 0).length)) c13 (fl eRf (inS 1 (As X) 0)), R] h53) ?_ ?_
  ·
   intro w54 h55
   refine ⟨_, rfl, ?_⟩
   have h56 : sat g w54 [J_ (i + 1), Cl c [pV b] 180, Pl b X, Cl r35 [iV (((slI X i : Nat) : Int)), uV ((slG X i))] 148, Sl 148 2 p12 (((inS 1 (As X) 0).length)) c13 (fl eRf (inS 1 (As X) 0)), R] := h55
   have hlt57 := ((by omega) : i < ((inS 1 (As X) 0).length))
   refine yD _ [(32, .bool false)] [e0 14] [] [] trivial nC ?_
   refine yK [(0, .func (Fn.yield k_) #[] #[]), (1, pV c), (12, .slice p12 (((inS 1 (As X) 0).length)) c13), (13, iV ((((inS 1 (As X) 0).length : Nat) : Int))), (14, iV (i : Int)), (32, .bool false)] fun lr58 => ?_
   refine yCf ?_
   refine ySk ?_
   refine yPl [0, 1] ?_
   refine yBb [] [(14, iV ((i : Int) + 1)), (33, iV ((i : Int) + 1))] [e1 0 (iV ((i : Int) + 1)), e0 1] [] [(iV (IntKind.wrap .i64 ((i : Int) + 1)), iV ((i : Int) + 1))] ⟨(ov_i64 (by omega) (by omega) (by omega)), trivial⟩ nC (.mk ?_)
   have h59 := tk6 (sf5 (sf5 (sf5 (sf5 (sf5 (sf3 h56))))))
   have h60 := tk5 h59
   change ∃ n', n' < _ ∧ _
   refine ⟨(((inS 1 (As X) 0).length) - (i + 1)), by omega, (i + 1), _, rfl, (by omega), (mk_live [(0, .func (Fn.yield k_) #[] #[]), (1, pV c), (12, .slice p12 (((inS 1 (As X) 0).length)) c13), (13, iV ((((inS 1 (As X) 0).length : Nat) : Int))), (14, iV ((((i + 1) : Nat) : Int)))] ⟨rfl, rfl, rfl, rfl, (ov_int (by omega)), trivial⟩), h60⟩
  ·
   intro w61 h62
   refine ⟨_, rfl, ?_⟩
   have h63 : sat g w61 [E_ i, Cl r35 [iV (((slI X i : Nat) : Int)), uV ((slG X i))] 148, Sl 148 2 p12 (((inS 1 (As X) 0).length)) c13 (fl eRf (inS 1 (As X) 0)), R] := h62
   have hlt64 := ((by omega) : i < ((inS 1 (As X) 0).length))
   refine yD _ [(32, .bool true)] [e0 14] [] [] trivial nC ?_
   refine yK [(0, .func (Fn.yield k_) #[] #[]), (1, pV c), (12, .slice p12 (((inS 1 (As X) 0).length)) c13), (13, iV ((((inS 1 (As X) 0).length : Nat) : Int))), (14, iV (i : Int)), (32, .bool true)] fun lr65 => ?_
   refine yCt ?_
   refine yRt ?_
   repeat (first | simp only [Exit.inBlock] | simp only [Exit.then])
   refine hi_out [] (.tuple #[]) [] (by kernel_rfl) (by intro q hq; cases hq) ⟨⟨_, rfl⟩, ?_⟩
   have h66 := tk4 (sf3 (sf3 (sf2 (sf2 h63))))
   have h67 := tk2 h66
   exact .inr ⟨i, (by omega), h67⟩
 ·
  refine yBb [] [(15, .bool false)] [e1 0 (.bool false)] [] [(.bool (decide ((i : Int) < (((inS 1 (As X) 0).length : Nat) : Int))), .bool false)] ⟨(ov_f (by omega)), trivial⟩ nC (.mk ?_)
  refine yK [(0, .func (Fn.yield k_) #[] #[]), (1, pV c), (12, .slice p12 (((inS 1 (As X) 0).length)) c13), (13, iV ((((inS 1 (As X) 0).length : Nat) : Int))), (14, iV (i : Int)), (15, .bool false)] fun lr68 => ?_
  refine ySq ?_
  refine yCf ?_
  refine yEx 0 ?_
  repeat (first | simp only [Exit.inBlock] | simp only [Exit.then])
  refine hi_outn [] (.tuple #[]) [] (by kernel_rfl) (by intro q hq; cases hq) ⟨⟨_, rfl⟩, ?_⟩
  have h69 := tk5 (sf4 (sf4 (sf4 (sf4 (sf3 h26)))))
  have h70 := tk4 h69
  have he_ : i = ((inS 1 (As X) 0).length) := (by omega)
  exact .inl (he_ ▸ h70)

end Go.Proofs.YtehlamblpekmkaaGreatDoor

/- Walks, printed by my generator P:../out/o3.py. -/
namespace Go.Proofs.YtehlamblpekmkaaGreatDoor
set_option maxHeartbeats 4000000
theorem pl_bd {g w : World} {L : List Assn} {j b : Nat} {X : Xs} (h : sat g w L) (hj : L[j]? = some (Pl b X)) : X.length = 64 ∧ Bnd X := sat_use h hj fun _ ha _ => by
  obtain ⟨x, h1, _⟩ := ha
  exact ⟨h1.1, h1.2.1⟩
theorem pused_ht (b : Nat) (X : Xs) : HT Tryz.prog 254 [Value.pointer (some ⟨b, 0, none⟩)] [Pl b X] (fun v K => v = Value.int .i64 (used X) ∧ K = [Pl b X]) := by
 refine hi_in 14 ([(0, pV b)] : Fr) Tryz.func254 (by kernel_rfl) Tryz.ntmps254 rfl rfl ?_
 intro g w0 R h0
 refine ySq ?_
 refine yPl [0] ?_
 refine yB0 [] [0] [(2, iV 0)] (.mk ?_)
 refine yK [(0, pV b), (2, iV 0)] fun lr1 => ?_
 refine ySq ?_
 refine yPl [0, 1] ?_
 refine yA ?_
 refine yNp 3 3 [iV 0] h0 fun r2 w3 h4 => ?_
 refine yA ?_
 refine yS [(0, iV 0)] [iV 0] h4 fun w5 h6 => ?_
 refine PO.mk ?_
 refine yK [(0, pV b), (2, iV 0), (3, pV r2)] fun lr7 => ?_
 refine ySq ?_
 refine ySq ?_
 refine yPl [0, 1] ?_
 refine yB0 [1] [0] [(6, pV b)] ?_
 refine yA ?_
 refine yCl 7 Tryz.call285 (pinned_ht b) h6 ?_
 rintro v K w9 (⟨c8, rfl, rfl⟩) h10
 refine ⟨_, rfl, ?_⟩
 have h11 := ap1 h10
 refine PO.mk ?_
 refine yK [(0, pV b), (2, iV 0), (3, pV r2), (7, .func (Fn.func 292) #[] #[pV c8])] fun lr12 => ?_
 refine yBk 0 ?_
 have hB_ := pl_bd (j := 2) h11 rfl; have hl_ : ((inS 1 (As X) 0).length) ≤ 64 := by have h1_ := inS_len 1 (As X) 0; rw [as_len, hB_.1] at h1_; exact h1_
 have h13 := tk4 (sf3 (sf2 (sf3 (sf3 h11))))
 refine gi_rf (x := (Operand.tmp 7)) (ps := #[8, 9]) (asg := CA Tryz.f254 [1, 1, 0, 1, 0, 1]) (bd := CA Tryz.f254 [1, 1, 0, 1, 0, 0]) (gf := 292) (cap := [pV c8]) (N := ((inS 1 (As X) 0).length)) (xs := fun i => [.agg #[iV 2, iV (((slI X i : Nat) : Int)), uV ((slG X i))], iV ((vaA X (slI X i)))]) (At := [Cl c8 [pV b] 180, Pl b X]) (K0 := [Cl r2 [iV 0] 3]) (L := [R]) (fun i => [(9, iV ((vaA X (slI X i)))), (8, .agg #[iV 2, iV (((slI X i : Nat) : Int)), uV ((slG X i))])] ++ (([(0, pV b), (2, iV 0), (3, pV r2), (7, .func (Fn.func 292) #[] #[pV c8])] : Fr) ++ lr12)) (fun i => ([(5, iV ((vaA X (slI X i)))), (9, iV ((vaA X (slI X i)))), (8, .agg #[iV 2, iV (((slI X i : Nat) : Int)), uV ((slG X i))])] : Fr) ++ (([(0, pV b), (2, iV 0), (3, pV r2), (7, .func (Fn.func 292) #[] #[pV c8])] : Fr) ++ lr12)) (fun i K => K = [Cl r2 [iV ((useT X i))] 3]) (fun c i K => False) (by kernel_rfl) (by kernel_rfl) Tryz.call292 (pinned_it c8 b X) rfl h13 (fun _ _ => rfl) (fun _ _ => rf_frame2 rfl rfl) ?_ ?_ ?_ ?_
 ·
  intro i hi_ lp_ w14 K_ hk15
  change WP _ _ (CA Tryz.f254 [1, 1, 0, 1, 0, 1]) _ (mk 14 (([(9, iV ((vaA X (slI X i)))), (8, .agg #[iV 2, iV (((slI X i : Nat) : Int)), uV ((slG X i))]), (0, pV b), (2, iV 0), (3, pV r2), (7, .func (Fn.func 292) #[] #[pV c8])] : Fr) ++ lr12)) _
  refine yPl [0] ?_
  refine yB0 [] [0] [(5, iV ((vaA X (slI X i))))] (.mk ?_)
  exact hk15
 ·
  rintro i hi18 lp_ w16 K_ G ⟨rfl⟩ h17
  have h19 : sat g w16 [Cl r2 [iV ((useT X i))] 3, Cl c8 [pV b] 180, Pl b X, G] := h17
  change WP _ _ (CA Tryz.f254 [1, 1, 0, 1, 0, 0]) _ (mk 14 (([(5, iV ((vaA X (slI X i)))), (9, iV ((vaA X (slI X i)))), (8, .agg #[iV 2, iV (((slI X i : Nat) : Int)), uV ((slG X i))]), (0, pV b), (2, iV 0), (3, pV r2), (7, .func (Fn.func 292) #[] #[pV c8])] : Fr) ++ lr12)) _
  have hu_ := useT_bd hB_.2 i (by omega); have hv_ := vaA_bd hB_.2 (sl_at (X := X) (i := i) (by omega))
  refine yBk 1 ?_
  refine yPl [0, 1, 2, 3] ?_
  refine yBb [3] [(12, iV ((useT X i) + (vaA X (slI X i)))), (11, iV ((vaA X (slI X i)))), (10, iV ((useT X i)))] [e2 0 [iV ((useT X i))], e0 1, e1 2 (iV ((useT X i) + (vaA X (slI X i))))] [(0, ⟨r2, 0, none⟩, iV ((useT X i)))] [(iV (IntKind.wrap .i64 (((useT X i)) + ((vaA X (slI X i))))), iV ((useT X i) + (vaA X (slI X i))))] ⟨(ov_i64 (by omega) (by omega) (by omega)), trivial⟩ (kC (sat_cell h19 0 rfl rfl) nC) ?_
  refine yA ?_
  refine yS [(0, iV ((useT X i) + (vaA X (slI X i))))] [iV ((useT X i) + (vaA X (slI X i)))] h19 fun w20 h21 => ?_
  refine PO.mk ?_
  repeat (first | simp only [Exit.inBlock] | simp only [Exit.then])
  have h22 : sat g w20 [Cl r2 [iV ((useT X (i + 1)))] 3, Cl c8 [pV b] 180, Pl b X, G] := sat_imp h21 (fun _ hh_ => by rw [useT_go (by omega)]; exact hh_)
  have h23 := tk4 h22
  exact ⟨_, rfl, h23⟩
 ·
  rintro D24 w25 K_ ⟨rfl⟩ h26
  have h27 : sat g w25 [pt D24 (Obj.deferred (some [])), Cl r2 [iV ((useT X ((inS 1 (As X) 0).length)))] 3, Cl c8 [pV b] 180, Pl b X, R] := h26
  refine yK [(3, pV r2)] fun lr28 => ?_
  refine ySq ?_
  refine yPl [0, 1] ?_
  refine yBb [] [(2, iV ((useT X ((inS 1 (As X) 0).length)))), (13, iV ((useT X ((inS 1 (As X) 0).length))))] [e2 0 [iV ((useT X ((inS 1 (As X) 0).length)))], e0 1] [(0, ⟨r2, 0, none⟩, iV ((useT X ((inS 1 (As X) 0).length))))] [] trivial (kC (sat_cell h27 1 rfl rfl) nC) (.mk ?_)
  refine yK [(2, iV ((useT X ((inS 1 (As X) 0).length))))] fun lr29 => ?_
  refine yRt ?_
  repeat (first | simp only [Exit.inBlock] | simp only [Exit.then])
  refine hi_out1 h27 [] (iV ((useT X ((inS 1 (As X) 0).length)))) [] (by kernel_rfl) (fun w31 h30 => ⟨?_, ?_⟩)
  · exact (by intro q hq; cases hq)
  ·
   have h32 : sat g w31 [pt D24 (Obj.deferred none), Cl r2 [iV ((useT X ((inS 1 (As X) 0).length)))] 3, Cl c8 [pV b] 180, Pl b X, R] := h30
   have h33 := tk5 (sf4 (sf3 (sf3 (sf3 (sf4 h32)))))
   have h34 := tk2 (sf1 (sf4 h33))
   exact ⟨iV ((useT X ((inS 1 (As X) 0).length))), [Pl b X], rfl, ⟨by rw [useT_all], rfl⟩, h34⟩
 ·
  intro _ _ _ _ _ _ hf_; exact hf_.elim

theorem pall_ht (b : Nat) (X : Xs) : HT Tryz.prog 319 [Value.pointer (some ⟨b, 0, none⟩)] [Pl b X] (fun v K => ∃ (p : Option Addr) (c : Nat), v = Value.slice p ((inS 1 (As X) 0).length) c ∧ K = [Pl b X, Sl 72 3 p (((inS 1 (As X) 0).length)) c (fl eO (allK 2 X))]) := by
 refine hi_in 14 ([(0, pV b)] : Fr) Tryz.func319 (by kernel_rfl) Tryz.ntmps319 rfl rfl ?_
 intro g w0 R h0
 refine ySq ?_
 refine yPl [0] ?_
 refine yB0 [] [0] [(2, .slice none 0 0)] (.mk ?_)
 refine yK [(0, pV b), (2, .slice none 0 0)] fun lr1 => ?_
 refine ySq ?_
 refine yPl [0] ?_
 refine yA ?_
 refine yNp 3 314 [.slice none 0 0] h0 fun r2 w3 h4 => ?_
 refine PO.mk ?_
 refine yK [(0, pV b), (2, .slice none 0 0), (3, pV r2)] fun lr5 => ?_
 refine ySq ?_
 refine ySq ?_
 refine yPl [0, 1] ?_
 refine yB0 [1] [0] [(5, pV b)] ?_
 refine yA ?_
 refine yCl 6 Tryz.call285 (pinned_ht b) h4 ?_
 rintro v K w7 (⟨c6, rfl, rfl⟩) h8
 refine ⟨_, rfl, ?_⟩
 have h9 := ap1 h8
 refine PO.mk ?_
 refine yK [(0, pV b), (2, .slice none 0 0), (3, pV r2), (6, .func (Fn.func 292) #[] #[pV c6])] fun lr10 => ?_
 refine yBk 0 ?_
 have hB_ := pl_bd (j := 2) h9 rfl; have hl_ : ((inS 1 (As X) 0).length) ≤ 64 := by have h1_ := inS_len 1 (As X) 0; rw [as_len, hB_.1] at h1_; exact h1_
 have hz_ : (allK 2 X).take 0 = [] := rfl
 have h16 : sat g w7 [Sl 72 3 none 0 0 (fl eO []), Cl c6 [pV b] 180, Cl r2 [.slice none 0 0] 314, Pl b X, R] := sl_nil 72 3 h9
 have h17 := tk5 (sf4 (sf3 (sf3 (sf4 (sf4 h16)))))
 refine gi_rf2 (x := (Operand.tmp 6)) (ps := #[7, 8]) (asg := CA Tryz.f319 [1, 1, 0, 1, 0, 1]) (bd := CA Tryz.f319 [1, 1, 0, 1, 0, 0]) (gf := 292) (cap := [pV c6]) (N := ((inS 1 (As X) 0).length)) (xs := fun i => [.agg #[iV 2, iV (((slI X i : Nat) : Int)), uV ((slG X i))], iV ((vaA X (slI X i)))]) (At := [Cl c6 [pV b] 180, Pl b X]) (K0 := [Cl r2 [.slice none 0 0] 314, Sl 72 3 none 0 0 (fl eO [])]) (L := [R]) (fun i => [(8, iV ((vaA X (slI X i)))), (7, .agg #[iV 2, iV (((slI X i : Nat) : Int)), uV ((slG X i))])] ++ (([(0, pV b), (2, .slice none 0 0), (3, pV r2), (6, .func (Fn.func 292) #[] #[pV c6])] : Fr) ++ lr10)) (fun i rb_ => ([(4, pV rb_), (8, iV ((vaA X (slI X i)))), (7, .agg #[iV 2, iV (((slI X i : Nat) : Int)), uV ((slG X i))])] : Fr) ++ (([(0, pV b), (2, .slice none 0 0), (3, pV r2), (6, .func (Fn.func 292) #[] #[pV c6])] : Fr) ++ lr10)) (fun i rb_ K => ∃ p : Option Addr, ∃ c : Nat, K = [Cl rb_ [iV 2, iV (((slI X i : Nat) : Int)), uV ((slG X i))] 72, Cl r2 [.slice p i c] 314, Sl 72 3 p i c (fl eO ((allK 2 X).take i))]) (fun i K => ∃ p : Option Addr, ∃ c : Nat, K = [Cl r2 [.slice p i c] 314, Sl 72 3 p i c (fl eO ((allK 2 X).take i))]) (fun c i K => False) (by kernel_rfl) (by kernel_rfl) Tryz.call292 (pinned_it c6 b X) ⟨none, 0, rfl⟩ h17 (fun _ _ => rfl) (fun _ _ => rf_frame2 rfl rfl) ?_ ?_ ?_ ?_
 ·
  rintro i hi_ lp_ w18 K_ G ⟨p, c, rfl⟩ h19
  have h20 : sat g w18 [Cl r2 [.slice p i c] 314, Sl 72 3 p i c (fl eO ((allK 2 X).take i)), Cl c6 [pV b] 180, Pl b X, G] := h19
  change WP _ _ (CA Tryz.f319 [1, 1, 0, 1, 0, 1]) _ (mk 14 (([(8, iV ((vaA X (slI X i)))), (7, .agg #[iV 2, iV (((slI X i : Nat) : Int)), uV ((slG X i))]), (0, pV b), (2, .slice none 0 0), (3, pV r2), (6, .func (Fn.func 292) #[] #[pV c6])] : Fr) ++ lr10)) _
  refine yPl [0, 1] ?_
  refine yA ?_
  refine yNp 4 72 [iV 0, iV 0, uV 0] h20 fun r21 w22 h23 => ?_
  refine yA ?_
  refine yS [(0, iV 2), (1, iV (((slI X i : Nat) : Int))), (2, uV ((slG X i)))] [iV 2, iV (((slI X i : Nat) : Int)), uV ((slG X i))] h23 fun w24 h25 => ?_
  refine PO.mk ?_
  repeat (first | simp only [Exit.inBlock] | simp only [Exit.then])
  exact ⟨r21, _, rfl, ⟨p, c, rfl⟩, h25⟩
 ·
  rintro i hi28 lp_ w26 rb_ K_ G ⟨p, c, rfl⟩ h27
  have h29 : sat g w26 [Cl rb_ [iV 2, iV (((slI X i : Nat) : Int)), uV ((slG X i))] 72, Cl r2 [.slice p i c] 314, Sl 72 3 p i c (fl eO ((allK 2 X).take i)), Cl c6 [pV b] 180, Pl b X, G] := h27
  change WP _ _ (CA Tryz.f319 [1, 1, 0, 1, 0, 0]) _ (mk 14 (([(4, pV rb_), (8, iV ((vaA X (slI X i)))), (7, .agg #[iV 2, iV (((slI X i : Nat) : Int)), uV ((slG X i))]), (0, pV b), (2, .slice none 0 0), (3, pV r2), (6, .func (Fn.func 292) #[] #[pV c6])] : Fr) ++ lr10)) _
  refine yBk 1 ?_
  refine yPl [0, 1, 2, 3, 4] ?_
  refine yBb [2, 3, 4] [(10, .agg #[iV 2, iV (((slI X i : Nat) : Int)), uV ((slG X i))]), (9, .slice p i c)] [e2 0 [.slice p i c], e2 1 [iV 2, iV (((slI X i : Nat) : Int)), uV ((slG X i))]] [(1, ⟨rb_, 0, none⟩, iV 2), (1, ⟨rb_, 1, none⟩, iV (((slI X i : Nat) : Int))), (1, ⟨rb_, 2, none⟩, uV ((slG X i))), (0, ⟨r2, 0, none⟩, .slice p i c)] [] trivial (kC (sat_cell h29 0 rfl rfl) (kC (sat_cell h29 0 rfl rfl) (kC (sat_cell h29 0 rfl rfl) (kC (sat_cell h29 1 rfl rfl) nC)))) ?_
  refine yA ?_
  refine an_new (d := 11) (fun xb_ => .slice (some ⟨xb_, 0, none⟩) 1 1) (fun xb_ => Obj.cells [iV 2, iV (((slI X i : Nat) : Int)), uV ((slG X i))].toArray 72 (0, 0)) (fun xb_ => by kernel_rfl) (by kernel_rfl) rfl h29 ?_
  intro r30 w31 (h32 : sat g w31 [Cl r30 [iV 2, iV (((slI X i : Nat) : Int)), uV ((slG X i))] 72, Cl rb_ [iV 2, iV (((slI X i : Nat) : Int)), uV ((slG X i))] 72, Cl r2 [.slice p i c] 314, Sl 72 3 p i c (fl eO ((allK 2 X).take i)), Cl c6 [pV b] 180, Pl b X, G])
  have h33 := tk7 (sf6 (sf5 (sf5 (sf5 (sf6 (sf6 (sf6 h32)))))))
  refine yA ?_
  refine an_append (d := 12) (sz := 3) (s := (Operand.tmp 9)) (x := (Operand.tmp 11)) (z := .agg #[iV 0, iV 0, uV 0]) (p := p) (m := i) (c := c) (k := 1) (c2 := 1) (a := ⟨r30, 0, none⟩) (by_ := 24) (by kernel_rfl) (by kernel_rfl) rfl Tryz.underlying314 (by kernel_rfl) rfl (by decide) (by kernel_rfl) (by kernel_rfl) h33 (fl eO [(2, ((slI X i : Nat) : Int), (slG X i))]) rfl (fun j u hj => by rw [add_off]; exact sat_cell h33 1 rfl (by rw [Nat.zero_add]; exact hj)) (fl_one eO_ok _) (by omega) (by omega) (i + 1) (by omega) ?_
  intro p34 cap35 w36 h37
  have h38 : sat g w36 [Sl 72 3 p34 (i + 1) cap35 (fl eO (((allK 2 X).take i) ++ [(2, ((slI X i : Nat) : Int), (slG X i))])), Cl r30 [iV 2, iV (((slI X i : Nat) : Int)), uV ((slG X i))] 72, Cl rb_ [iV 2, iV (((slI X i : Nat) : Int)), uV ((slG X i))] 72, Cl r2 [.slice p i c] 314, Cl c6 [pV b] 180, Pl b X, G] := sat_imp h37 (fun _ hh => by rw [fl_app]; exact hh)
  obtain ⟨hn39, hn40⟩ := sl_le h38
  have h41 := tk7 (sf6 (sf5 (sf5 (sf5 (sf6 (sf6 (sf6 h38)))))))
  refine yA ?_
  refine yS [(0, .slice p34 (i + 1) cap35)] [.slice p34 (i + 1) cap35] h41 fun w42 h43 => ?_
  refine PO.mk ?_
  repeat (first | simp only [Exit.inBlock] | simp only [Exit.then])
  have h44 := tk7 (sf6 (sf5 (sf6 (sf6 (sf6 (sf6 (sf6 h43)))))))
  have h45 : sat g w42 [Sl 72 3 p34 (i + 1) cap35 (fl eO ((allK 2 X).take (i + 1))), Cl r2 [.slice p34 (i + 1) cap35] 314, Cl r30 [iV 2, iV (((slI X i : Nat) : Int)), uV ((slG X i))] 72, Cl rb_ [iV 2, iV (((slI X i : Nat) : Int)), uV ((slG X i))] 72, Cl c6 [pV b] 180, Pl b X, G] := (show (((allK 2 X).take i) ++ [(2, ((slI X i : Nat) : Int), (slG X i))]) = ((allK 2 X).take (i + 1)) from allK_take (by omega)) ▸ h44
  have h46 := tk7 (sf6 (sf5 (sf6 (sf6 (sf6 (sf3 (sf3 h45)))))))
  have h47 := tk5 h46
  exact ⟨_, ⟨p34, cap35, rfl⟩, h47⟩
 ·
  rintro D48 w49 K_ ⟨p, c, rfl⟩ h50
  have h51 : sat g w49 [pt D48 (Obj.deferred (some [])), Cl r2 [.slice p (((inS 1 (As X) 0).length)) c] 314, Sl 72 3 p (((inS 1 (As X) 0).length)) c (fl eO ((allK 2 X).take ((inS 1 (As X) 0).length))), Cl c6 [pV b] 180, Pl b X, R] := h50
  have h52 := tk6 (sf5 (sf4 (sf4 (sf5 (sf5 (sf5 h51))))))
  have h53 : sat g w49 [Sl 72 3 p (((inS 1 (As X) 0).length)) c (fl eO (allK 2 X)), pt D48 (Obj.deferred (some [])), Cl r2 [.slice p (((inS 1 (As X) 0).length)) c] 314, Cl c6 [pV b] 180, Pl b X, R] := sat_imp h52 (fun _ hh => by rw [List.take_of_length_le (by rw [allK_len]; exact Nat.le_refl _)] at hh; exact hh)
  refine yK [(3, pV r2)] fun lr54 => ?_
  refine ySq ?_
  refine yPl [0, 1] ?_
  refine yBb [] [(2, .slice p (((inS 1 (As X) 0).length)) c), (13, .slice p (((inS 1 (As X) 0).length)) c)] [e2 0 [.slice p (((inS 1 (As X) 0).length)) c], e0 1] [(0, ⟨r2, 0, none⟩, .slice p (((inS 1 (As X) 0).length)) c)] [] trivial (kC (sat_cell h53 2 rfl rfl) nC) (.mk ?_)
  refine yK [(2, .slice p (((inS 1 (As X) 0).length)) c)] fun lr55 => ?_
  refine yRt ?_
  repeat (first | simp only [Exit.inBlock] | simp only [Exit.then])
  have h56 := tk6 (sf5 (sf4 (sf5 (sf5 (sf5 (sf5 h53))))))
  refine hi_out1 h56 [] (.slice p (((inS 1 (As X) 0).length)) c) [] (by kernel_rfl) (fun w58 h57 => ⟨?_, ?_⟩)
  · exact (by intro q hq; cases hq)
  ·
   have h59 : sat g w58 [pt D48 (Obj.deferred none), Sl 72 3 p (((inS 1 (As X) 0).length)) c (fl eO (allK 2 X)), Cl r2 [.slice p (((inS 1 (As X) 0).length)) c] 314, Cl c6 [pV b] 180, Pl b X, R] := h57
   have h60 := tk6 (sf5 (sf4 (sf3 (sf4 (sf4 (sf5 h59))))))
   have h61 := tk3 (sf2 (sf2 (sf5 h60)))
   exact ⟨.slice p (((inS 1 (As X) 0).length)) c, [Pl b X, Sl 72 3 p (((inS 1 (As X) 0).length)) c (fl eO (allK 2 X))], rfl, ⟨p, c, rfl, rfl⟩, h61⟩
 ·
  intro _ _ _ _ _ _ hf_; exact hf_.elim

theorem pin_ht (b : Nat) (X : Xs) (v : Int) (hv : 1 ≤ v ∧ v ≤ 65536) : HT Tryz.prog 202 [pV b, iV v] [Pl b X] (fun r K => r = .tuple #[.agg #[iV (pinO X v).1, iV (pinO X v).2.1, uV (pinO X v).2.2], iV (pinE X v)] ∧ K = [Pl b (pinX X v)]) := by
 refine hiS Tryz.func202 Tryz.ntmps202 fun g w0 R h0 => go [] <| nP 72 [iV 0, iV 0, uV 0] h0 (fun r10 _ h12 => ?_)
 obtain ⟨s14, V15, hP16, h17⟩ := pl_open (tk3 (sf2 (sf1 (sf2 h12))))
 have hb18 := tb_bd (j := 1) h17 rfl
 have hAl_ := hb18.1; have hok_ := hb18.2.2.2
 refine go [] <| cl1 Tryz.call190 (pvalid_cl b s14 ((iV 64) :: (iV 1048576) :: fl eI V15)) h17 fun _ h20 => go [.v 3 1 (oF (v < 1)), .v 3 4 (oF (v > 65536))] <| dw (fls [0, 2, 4, 5, 6, 7] (Tr.an 1 (fls [3, 8, 9] Tr.nil))) h20 fun w21 h22 => ?_
 have h23 : sat g w21 [Pl b X, Cl r10 [iV 0, iV 0, uV 0] 72, R] := pl_close hP16 rfl h22
 refine go [rd 5 7 0 2 1 h22] <| cw1 Tryz.call254 (pused_ht b X) h23 fun _ h25 => ?_
 have hu26 := pl_bd (j := 0) h25 rfl; have hu26b := used_bd hu26.2; rw [hu26.1] at hu26b
 obtain ⟨s27, V28, hP29, h30⟩ := pl_open h25
 have hb31 := tb_bd (j := 1) h30 rfl
 have hAl_ := hb31.1; have hok_ := hb31.2.2.2
 refine ⟨kd [rd 0 7 0 2 1 h30], ?_⟩
 refine go [.v 5 3 (oIr (((used X)) + v)), .s 5 8] ?_
 by_cases c32 : (used X) + v > 1048576
 ·
  have h33 := tk4 (sf3 (sf2 (sf2 (sf3 h30))))
  refine go [.v 5 8 (oT ((used X) + v > 1048576))] <| sP [(0, iV 0), (1, iV 0), (2, uV 0)] [iV 0, iV 0, uV 0] h33 fun w34 h35 => go [] ?_
  have hp_ := pin_much (X := X) (v := v) (by omega)
  have h37 : sat g w34 [Pl b X, Cl r10 [iV 0, iV 0, uV 0] 72, R] := pl_close hP29 rfl (tk4 (sf3 (sf3 (sf1 (sf3 h35)))))
  exact en (.tuple #[.agg #[iV 0, iV 0, uV 0], iV 4]) [rd 0 0 0 0 3 h35] ⟨_, [Pl b X], rfl, ⟨by rw [hp_.1, hp_.2.1], by rw [hp_.2.2]⟩, (tk2 (sf1 (sf2 h37)))⟩
 have h39 := tk4 (sf3 (sf2 (sf3 (sf3 h30))))
 refine go [.v 5 8 (oF ((used X) + v > 1048576)), rd 7 3 0 0 1 h30] <| cl1 Tryz.call207 (take_ht s27 64 (As X)) h39 fun _ h41 => go [] <| nP 148 [iV 0, uV 0] h41 (fun r42 _ h44 => ?_)
 refine sP [(0, iV ((takeV (As X)).1)), (1, uV ((takeV (As X)).2.1))] [iV ((takeV (As X)).1), uV ((takeV (As X)).2.1)] h44 fun _ h46 => go [.s 8 1] ?_
 by_cases c47 : (takeV (As X)).2.2 = 0
 ·
  obtain ⟨htk_, i_, g_, u_, hf_, hx_, hi_, hg_, hA_⟩ := take_free (X := X) (v := v) (by omega)
  have hi64_ : i_ < 64 := by have h_ := (List.getElem?_eq_some_iff.1 hx_).1; rw [hP29.1] at h_; exact h_
  refine go [.v 8 1 (qnF ((takeV (As X)).2.2) 0)] <| dw (fls [0, 1, 2, 3, 4, 5, 6] (Tr.an 7 Tr.nil)) h46 fun _ h49 => go [rd 10 2 0 0 1 h49, .s 10 6] <| lw (.pointer (some ⟨b, i_ + 3, none⟩)) (fun _ => law_indexArr (x := (Operand.tmp 48)) (i := (Operand.tmp 45)) (b := b) (off := 3) (z := ((takeV (As X)).1)) (by kernel_rfl) Tryz.underlying260 1 (by kernel_rfl) i_ (by kernel_rfl) (by kernel_rfl) (by omega) (by omega) (i_ + 3) (by omega) _) ?_
  have h50 := tk5 (sf4 (sf3 (sf3 (sf4 (sf4 h49)))))
  refine actG ?_
  refine an_store [(i_ + 3, iV v)] (cs' := ((pV s27) :: (iV 64) :: (iV 1048576) :: fl eI (V28.set i_ v))) (by kernel_rfl) (by kernel_rfl) (allq ⟨⟨by rw [rlen3, hP29.2.2.1]; omega, rfl⟩, trivial⟩) (rput3 (by omega) (by rw [hP29.2.2.1]; omega)) h50 ?_
  intro _ h52
  refine ⟨kd [], nxN ?_⟩
  have h53 := tk5 (sf4 (sf3 (sf3 (sf3 (sf4 h52)))))
  refine go [rd 11 1 1 0 1 h52, rd 11 3 1 1 1 h52] <| sP [(0, iV 2), (1, iV ((takeV (As X)).1)), (2, uV ((takeV (As X)).2.1))] [iV 2, iV ((takeV (As X)).1), uV ((takeV (As X)).2.1)] h53 fun w54 h55 => go [] ?_
  have hp_ := pin_ok (v := v) (show ¬ 1048576 < used X + v from by omega) hf_
  have h57 : sat g w54 [Pl b (pinX X v), Cl r10 [iV 2, iV ((takeV (As X)).1), uV ((takeV (As X)).2.1)] 72, Cl r42 [iV ((takeV (As X)).1), uV ((takeV (As X)).2.1)] 148, R] := pl_close (by rw [hp_.2.2]; exact pl_set hP29 hi64_ (by omega)) (hA_.trans (by rw [hp_.2.2])) (tk5 (sf4 (sf4 (sf2 (sf3 (sf4 h55))))))
  exact en (.tuple #[.agg #[iV 2, iV ((takeV (As X)).1), uV ((takeV (As X)).2.1)], iV 0]) [rd 0 0 0 0 3 h55] ⟨_, _, rfl, ⟨by rw [hp_.1, hp_.2.1, hi_, hg_], rfl⟩, (tk2 (sf1 (sf3 h57)))⟩
 have h59 := tk5 (sf4 (sf3 (sf3 (sf3 (sf4 h46)))))
 refine go [.v 8 1 (qnT ((takeV (As X)).2.2) 0)] <| sP [(0, iV 0), (1, iV 0), (2, uV 0)] [iV 0, iV 0, uV 0] h59 fun w60 h61 => go [] ?_
 have ht_ := take_full (X := X) (by omega); have hp_ := pin_full (v := v) (show ¬ 1048576 < used X + v from by omega) ht_.1
 have h63 : sat g w60 [Pl b X, Cl r10 [iV 0, iV 0, uV 0] 72, Cl r42 [iV ((takeV (As X)).1), uV ((takeV (As X)).2.1)] 148, R] := pl_close hP29 ht_.2.2 (tk5 (sf4 (sf3 (sf2 (sf2 (sf4 h61))))))
 exact en (.tuple #[.agg #[iV 0, iV 0, uV 0], iV 4]) [rd 0 0 0 0 3 h61] ⟨_, [Pl b X], rfl, ⟨by rw [hp_.1, hp_.2.1], by rw [hp_.2.2]⟩, (tk2 (sf1 (sf3 h63)))⟩

theorem pfind_ht (b : Nat) (X : Xs) (y z : Int) (q : Nat) (hat : (As X)[q]? = some (1, z)) (hy : y = (q : Int)) : HT Tryz.prog 279 [pV b, .agg #[iV 2, iV y, uV z]] [Pl b X] (fun v K => v = .tuple #[.agg #[iV y, uV z], iV 0] ∧ K = [Pl b X]) := by
 refine hiS Tryz.func279 Tryz.ntmps279 fun g w0 R h0 => ?_
 have hbd_ := pl_bd (j := 0) h0 rfl; have hq64_ : q < 64 := by have h_ := (List.getElem?_eq_some_iff.1 hat).1; rw [as_len, hbd_.1] at h_; exact h_
 refine go [] <| nP 72 [iV 2, iV y, uV z] h0 (fun r10 _ h12 => ?_)
 refine nP 148 [iV 0, uV 0] h12 (fun r13 _ h15 => ?_)
 refine go [rd 1 1 1 1 1 h15, rd 1 3 1 2 1 h15] <| nP 148 [iV 0, uV 0] h15 (fun r16 _ h18 => ?_)
 refine sP [(0, iV y), (1, uV z)] [iV y, uV z] h18 fun _ h20 => ?_
 obtain ⟨s22, V23, hP24, h25⟩ := pl_open (tk5 (sf4 (sf3 (sf3 (sf3 (sf4 h20))))))
 have hb26 := tb_bd (j := 1) h25 rfl
 have hAl_ := hb26.1; have hok_ := hb26.2.2.2
 refine go [] <| cl1 Tryz.call190 (pvalid_cl b s22 ((iV 64) :: (iV 1048576) :: fl eI V23)) h25 fun _ h28 => go [rd 4 1 4 0 1 h28] <| dw (fls [0, 1, 2, 3, 4, 5, 6, 7, 8, 9, 10, 11, 12] Tr.nil) h28 fun _ h30 => go [rd 6 1 4 1 1 h30, .v 6 2 (oF (y < 0)), rd 6 5 4 1 1 h30, rd 6 9 0 1 1 h30, .v 6 10 (oF (y ≥ 64))] <| dw (fls [0, 1, 2, 3, 4] (Tr.an 5 (fls [6, 7] Tr.nil))) h30 fun _ h32 => ?_
 have h33 := tk6 (sf5 (sf4 (sf5 (sf5 (sf5 (sf5 h32))))))
 refine go [rd 8 3 0 0 1 h32, rd 8 4 2 0 2 h32] <| cw1 Tryz.call248 (check_ok s22 64 (As X) q (1, z) hat y z ⟨by omega, rfl, rfl⟩) h33 fun _ h35 => ⟨kd [], ?_⟩
 have h36 := tk6 (sf5 (sf4 (sf4 (sf4 (sf5 (sf5 h35))))))
 refine go [rd 10 0 2 0 2 h35] <| sP [(0, iV y), (1, uV z)] [iV y, uV z] h36 fun w37 h38 => go [] ?_
 have h40 : sat g w37 [Pl b X, Cl r13 [iV y, uV z] 148, Cl r16 [iV y, uV z] 148, Cl r10 [iV 2, iV y, uV z] 72, R] := pl_close hP24 rfl (tk6 (sf5 (sf4 (sf3 (sf5 (sf5 (sf5 h38)))))))
 exact en (.tuple #[.agg #[iV y, uV z], iV 0]) [rd 0 0 0 0 2 h38] ⟨_, _, rfl, ⟨rfl, rfl⟩, (tk2 (sf1 (sf4 h40)))⟩

theorem punpin_ht (b : Nat) (X : Xs) (y z : Int) (q : Nat) (hat : (As X)[q]? = some (1, z)) (hy : y = (q : Int)) : HT Tryz.prog 245 [pV b, .agg #[iV 2, iV y, uV z]] [Pl b X] (fun v K => v = iV 0 ∧ K = [Pl b (giv X (2, y, z))]) := by
 refine hiS Tryz.func245 Tryz.ntmps245 fun g w0 R h0 => ?_
 have hbd_ := pl_bd (j := 0) h0 rfl; have hq64_ : q < 64 := by have h_ := (List.getElem?_eq_some_iff.1 hat).1; rw [as_len, hbd_.1] at h_; exact h_
 refine go [] <| nP 72 [iV 2, iV y, uV z] h0 (fun r10 _ h12 => ?_)
 have h13 := tk3 (sf2 (sf1 (sf2 h12)))
 refine go [rd 1 1 0 0 3 h12] <| cl1 Tryz.call279 (pfind_ht b X y z q hat hy) h13 fun _ h15 => go [] <| nP 148 [iV 0, uV 0] h15 (fun r16 _ h18 => ?_)
 refine sP [(0, iV y), (1, uV z)] [iV y, uV z] h18 fun _ h20 => go [] <| dw (fls [0, 1, 2, 3, 4, 5] (Tr.an 6 Tr.nil)) h20 fun _ h22 => go [rd 4 2 0 0 1 h22, .s 4 5] <| lw (.pointer (some ⟨b, q + 3, none⟩)) (fun _ => law_indexArr (x := (Operand.tmp 20)) (i := (Operand.tmp 18)) (b := b) (off := 3) (z := y) (by kernel_rfl) Tryz.underlying260 1 (by kernel_rfl) q (by kernel_rfl) (by kernel_rfl) (by omega) (by omega) (q + 3) (by omega) _) ?_
 obtain ⟨s24, V25, hP26, h27⟩ := pl_open (tk4 (sf3 (sf2 (sf3 (sf3 h22)))))
 have hb28 := tb_bd (j := 1) h27 rfl
 have hAl_ := hb28.1; have hok_ := hb28.2.2.2
 refine actG ?_
 refine an_store [(q + 3, iV 0)] (cs' := ((pV s24) :: (iV 64) :: (iV 1048576) :: fl eI (V25.set q 0))) (by kernel_rfl) (by kernel_rfl) (allq ⟨⟨by rw [rlen3, hP26.2.2.1]; omega, rfl⟩, trivial⟩) (rput3 (by omega) (by rw [hP26.2.2.1]; omega)) h27 ?_
 intro _ h30
 refine ⟨kd [], nxN ?_⟩
 refine go [] <| dw (fls [0, 1, 2, 3, 4] (Tr.an 5 (Tr.fl 6 Tr.nil))) h30 fun _ h32 => ?_
 have h33 := tk5 (sf4 (sf3 (sf4 (sf4 (sf4 h32)))))
 refine go [rd 5 3 0 0 1 h32, rd 5 4 2 0 2 h32] <| cw1 Tryz.call197 (give_ht s24 64 (As X) q (1, z) hat y z ⟨by omega, rfl, rfl⟩) h33 fun w34 h35 => ⟨kd [], ?_⟩
 refine go [] ?_
 have h37 : sat g w34 [Pl b (giv X (2, y, z)), Cl r16 [iV y, uV z] 148, Cl r10 [iV 2, iV y, uV z] 72, R] := pl_close (pl_giv (o := (2, y, z)) hP26 hy) (giveA_giv X (2, y, z) hy) (tk5 (sf4 (sf3 (sf4 (sf4 (sf4 h35))))))
 exact en (iV 0) [] ⟨_, _, rfl, ⟨rfl, rfl⟩, (tk2 (sf1 (sf3 h37)))⟩

end Go.Proofs.YtehlamblpekmkaaGreatDoor

/- Walks, printed by my generator P:../out/o4.py. -/
namespace Go.Proofs.YtehlamblpekmkaaGreatDoor
set_option maxHeartbeats 4000000
theorem dmade_cl (b s : Nat) (Y : List Value) : HT Tryz.prog 191 [pV b] [Cl b ((pV s) :: Y) 265] (fun v K => v = .bool true ∧ K = [Cl b ((pV s) :: Y) 265]) := by
 refine hiS Tryz.func191 Tryz.ntmps191 fun g w0 R h0 => go [rd 1 6 0 0 1 h0] ?_
 exact en (.bool true) [] ⟨_, _, rfl, ⟨rfl, rfl⟩, h0⟩

theorem dk_new {g w : World} {L : List Assn} {b s : Nat} {gn : Int} (h : sat g w (Cl b [.pointer (some ⟨s, 0, none⟩), .int .i64 0, .int .i64 0, .int .i64 0, .int .i64 0, .int .i64 0, .int .i64 0, .int .i64 0, .int .i64 0, .int .i64 0, .int .i64 0, .int .i64 0, .int .i64 0, .int .i64 0, .int .i64 0, .int .i64 0, .int .i64 0, .int .i64 0, .int .i64 0, .int .i64 0, .int .i64 0, .int .i64 0, .int .i64 0, .int .i64 0, .int .i64 0, .int .i64 0, .int .i64 0, .int .i64 0, .int .i64 0, .int .i64 0, .int .i64 0, .int .i64 0, .int .i64 0, .int .i64 0, .int .i64 0, .int .i64 0, .int .i64 0, .int .i64 0, .int .i64 0, .int .i64 0, .int .i64 0, .int .i64 0, .int .i64 0, .int .i64 0, .int .i64 0, .int .i64 0, .int .i64 0, .int .i64 0, .int .i64 0, .int .i64 0, .int .i64 0, .int .i64 0, .int .i64 0, .int .i64 0, .int .i64 0, .int .i64 0, .int .i64 0, .int .i64 0, .int .i64 0, .int .i64 0, .int .i64 0, .int .i64 0, .int .i64 0, .int .i64 0, .int .i64 0] 265 :: Tb s 64 (List.replicate 64 (0, gn)) :: L)) : sat g w (Dk b (List.replicate 64 (0, gn, 0)) :: L) := by
  have e : ([.pointer (some ⟨s, 0, none⟩), .int .i64 0, .int .i64 0, .int .i64 0, .int .i64 0, .int .i64 0, .int .i64 0, .int .i64 0, .int .i64 0, .int .i64 0, .int .i64 0, .int .i64 0, .int .i64 0, .int .i64 0, .int .i64 0, .int .i64 0, .int .i64 0, .int .i64 0, .int .i64 0, .int .i64 0, .int .i64 0, .int .i64 0, .int .i64 0, .int .i64 0, .int .i64 0, .int .i64 0, .int .i64 0, .int .i64 0, .int .i64 0, .int .i64 0, .int .i64 0, .int .i64 0, .int .i64 0, .int .i64 0, .int .i64 0, .int .i64 0, .int .i64 0, .int .i64 0, .int .i64 0, .int .i64 0, .int .i64 0, .int .i64 0, .int .i64 0, .int .i64 0, .int .i64 0, .int .i64 0, .int .i64 0, .int .i64 0, .int .i64 0, .int .i64 0, .int .i64 0, .int .i64 0, .int .i64 0, .int .i64 0, .int .i64 0, .int .i64 0, .int .i64 0, .int .i64 0, .int .i64 0, .int .i64 0, .int .i64 0, .int .i64 0, .int .i64 0, .int .i64 0, .int .i64 0] : List Value) = (.pointer (some ⟨s, 0, none⟩) :: fl eI (List.replicate 64 0)) := by kernel_rfl
  rw [e] at h
  exact dk_close (V := List.replicate 64 0) ⟨List.length_replicate, vals_new⟩ (as_rep 64 gn 0) h
theorem dk_bd {g w : World} {L : List Assn} {j b : Nat} {X : Xs} (h : sat g w L) (hj : L[j]? = some (Dk b X)) : X.length = 64 := sat_use h hj fun _ ha _ => by
  obtain ⟨x, h1, _⟩ := ha
  exact h1.1

theorem lnew_ht (gn : Int) (hgn : 1 ≤ gn ∧ gn ≤ 4294967295) : HT Tryz.prog 100 [iV 64, uV gn] [] (fun v K => ∃ b : Nat, v = .tuple #[pV b, iV 0] ∧ K = [Dk b (List.replicate 64 (0, gn, 0))]) := by
 refine hiS Tryz.func100 Tryz.ntmps100 fun g w0 R h0 => go [] <| cP Tryz.call96 (snew_ok 64 (by omega) gn (by omega)) h0 ?_
 rintro v K _ (⟨b10, rfl, rfl⟩) h12
 have h13 := ap1 h12
 refine go [] <| nP 265 [pV b10, iV 0, iV 0, iV 0, iV 0, iV 0, iV 0, iV 0, iV 0, iV 0, iV 0, iV 0, iV 0, iV 0, iV 0, iV 0, iV 0, iV 0, iV 0, iV 0, iV 0, iV 0, iV 0, iV 0, iV 0, iV 0, iV 0, iV 0, iV 0, iV 0, iV 0, iV 0, iV 0, iV 0, iV 0, iV 0, iV 0, iV 0, iV 0, iV 0, iV 0, iV 0, iV 0, iV 0, iV 0, iV 0, iV 0, iV 0, iV 0, iV 0, iV 0, iV 0, iV 0, iV 0, iV 0, iV 0, iV 0, iV 0, iV 0, iV 0, iV 0, iV 0, iV 0, iV 0, iV 0] h13 (fun r14 w15 h16 => ?_)
 refine go [] ?_
 have h17 : sat g w15 [Dk r14 (List.replicate 64 (0, gn, 0)), R] := dk_new h16
 exact en (.tuple #[pV r14, iV 0]) [] ⟨_, _, rfl, ⟨r14, rfl, rfl⟩, h17⟩

theorem lspan_ht (t : Int) (ht : 1 ≤ t ∧ t ≤ 1048576) : HT Tryz.prog 255 [iV t] [] (fun v K => v = .bool true ∧ K = []) := by
 refine hiS Tryz.func255 Tryz.ntmps255 fun g w0 R h0 => go [.v 1 1 (oT (t ≥ 1)), .v 1 4 (oT (t ≤ 1048576))] ?_
 exact en (.bool true) [] ⟨_, _, rfl, ⟨rfl, rfl⟩, h0⟩

theorem ltime_ht (t : Int) (ht : 0 ≤ t ∧ t ≤ 1099511627776) : HT Tryz.prog 256 [iV t] [] (fun v K => v = .bool true ∧ K = []) := by
 refine hiS Tryz.func256 Tryz.ntmps256 fun g w0 R h0 => go [.v 1 1 (oT (t ≥ 0)), .v 1 4 (oT (t ≤ 1099511627776))] ?_
 exact en (.bool true) [] ⟨_, _, rfl, ⟨rfl, rfl⟩, h0⟩

theorem lend_over (t now : Int) (ht : 1 ≤ t ∧ t ≤ 1048576) (hn : 1099511627776 - t < now) : HT Tryz.prog 257 [iV t, iV now] [] (fun v K => v = .tuple #[iV 0, iV 17] ∧ K = []) := by
 refine hiS Tryz.func257 Tryz.ntmps257 fun g w0 R h0 => go [.v 1 2 (oI (1099511627776 - t) (-t + 1099511627776)), .v 1 3 (oT (now > -t + 1099511627776))] ?_
 exact en (.tuple #[iV 0, iV 17]) [] ⟨_, _, rfl, ⟨rfl, rfl⟩, h0⟩

theorem lend_ok (t now : Int) (ht : 1 ≤ t ∧ t ≤ 1048576) (h0 : 0 ≤ now) (hn : ¬ 1099511627776 - t < now) : HT Tryz.prog 257 [iV t, iV now] [] (fun v K => v = .tuple #[iV (now + t), iV 0] ∧ K = []) := by
 refine hiS Tryz.func257 Tryz.ntmps257 fun g w0 R h0 => go [.v 1 2 (oI (1099511627776 - t) (-t + 1099511627776)), .v 1 3 (oF (now > -t + 1099511627776)), .v 3 2 (oIr (now + t))] ?_
 exact en (.tuple #[iV (now + t), iV 0]) [] ⟨_, _, rfl, ⟨rfl, rfl⟩, h0⟩

theorem lref_ht (x y z : Int) : HT Tryz.prog 282 [.agg #[iV x, iV y, uV z]] [] (fun v K => v = .agg #[iV y, uV z] ∧ K = []) := by
 refine hiS Tryz.func282 Tryz.ntmps282 fun g w0 R h0 => go [] <| nP 72 [iV x, iV y, uV z] h0 (fun _ _ h12 => ?_)
 refine nP 148 [iV 0, uV 0] h12 (fun _ _ h15 => ?_)
 refine go [rd 1 1 1 1 1 h15, rd 1 3 1 2 1 h15] <| sP [(0, iV y), (1, uV z)] [iV y, uV z] h15 fun _ h17 => go [] ?_
 exact en (.agg #[iV y, uV z]) [rd 0 0 0 0 2 h17] ⟨_, _, rfl, ⟨rfl, rfl⟩, (tk1 (sf2 h17))⟩

theorem lcopy_ht (b : Nat) (X : Xs) : HT Tryz.prog 116 [pV b] [Dk b X] (fun v K => ∃ b2 : Nat, v = pV b2 ∧ K = [Dk b X, Dk b2 X]) := by
 refine hiS Tryz.func116 Tryz.ntmps116 fun g w0 R h0 => ?_
 obtain ⟨s10, V11, hP12, h13⟩ := dk_open h0
 have hb14 := tb_bd (j := 1) h13 rfl
 have hAl_ := hb14.1; have hok_ := hb14.2.2.2
 have h15 : sat g w0 [Cl b [pV s10, iV ((V11.getD 0 0)), iV ((V11.getD 1 0)), iV ((V11.getD 2 0)), iV ((V11.getD 3 0)), iV ((V11.getD 4 0)), iV ((V11.getD 5 0)), iV ((V11.getD 6 0)), iV ((V11.getD 7 0)), iV ((V11.getD 8 0)), iV ((V11.getD 9 0)), iV ((V11.getD 10 0)), iV ((V11.getD 11 0)), iV ((V11.getD 12 0)), iV ((V11.getD 13 0)), iV ((V11.getD 14 0)), iV ((V11.getD 15 0)), iV ((V11.getD 16 0)), iV ((V11.getD 17 0)), iV ((V11.getD 18 0)), iV ((V11.getD 19 0)), iV ((V11.getD 20 0)), iV ((V11.getD 21 0)), iV ((V11.getD 22 0)), iV ((V11.getD 23 0)), iV ((V11.getD 24 0)), iV ((V11.getD 25 0)), iV ((V11.getD 26 0)), iV ((V11.getD 27 0)), iV ((V11.getD 28 0)), iV ((V11.getD 29 0)), iV ((V11.getD 30 0)), iV ((V11.getD 31 0)), iV ((V11.getD 32 0)), iV ((V11.getD 33 0)), iV ((V11.getD 34 0)), iV ((V11.getD 35 0)), iV ((V11.getD 36 0)), iV ((V11.getD 37 0)), iV ((V11.getD 38 0)), iV ((V11.getD 39 0)), iV ((V11.getD 40 0)), iV ((V11.getD 41 0)), iV ((V11.getD 42 0)), iV ((V11.getD 43 0)), iV ((V11.getD 44 0)), iV ((V11.getD 45 0)), iV ((V11.getD 46 0)), iV ((V11.getD 47 0)), iV ((V11.getD 48 0)), iV ((V11.getD 49 0)), iV ((V11.getD 50 0)), iV ((V11.getD 51 0)), iV ((V11.getD 52 0)), iV ((V11.getD 53 0)), iV ((V11.getD 54 0)), iV ((V11.getD 55 0)), iV ((V11.getD 56 0)), iV ((V11.getD 57 0)), iV ((V11.getD 58 0)), iV ((V11.getD 59 0)), iV ((V11.getD 60 0)), iV ((V11.getD 61 0)), iV ((V11.getD 62 0)), iV ((V11.getD 63 0))] 265, Tb s10 64 (As X), R] := by have h_ := h13; rw [vlit hP12.2.1] at h_; exact h_
 refine go [] <| cl1 Tryz.call191 (dmade_cl b s10 [iV ((V11.getD 0 0)), iV ((V11.getD 1 0)), iV ((V11.getD 2 0)), iV ((V11.getD 3 0)), iV ((V11.getD 4 0)), iV ((V11.getD 5 0)), iV ((V11.getD 6 0)), iV ((V11.getD 7 0)), iV ((V11.getD 8 0)), iV ((V11.getD 9 0)), iV ((V11.getD 10 0)), iV ((V11.getD 11 0)), iV ((V11.getD 12 0)), iV ((V11.getD 13 0)), iV ((V11.getD 14 0)), iV ((V11.getD 15 0)), iV ((V11.getD 16 0)), iV ((V11.getD 17 0)), iV ((V11.getD 18 0)), iV ((V11.getD 19 0)), iV ((V11.getD 20 0)), iV ((V11.getD 21 0)), iV ((V11.getD 22 0)), iV ((V11.getD 23 0)), iV ((V11.getD 24 0)), iV ((V11.getD 25 0)), iV ((V11.getD 26 0)), iV ((V11.getD 27 0)), iV ((V11.getD 28 0)), iV ((V11.getD 29 0)), iV ((V11.getD 30 0)), iV ((V11.getD 31 0)), iV ((V11.getD 32 0)), iV ((V11.getD 33 0)), iV ((V11.getD 34 0)), iV ((V11.getD 35 0)), iV ((V11.getD 36 0)), iV ((V11.getD 37 0)), iV ((V11.getD 38 0)), iV ((V11.getD 39 0)), iV ((V11.getD 40 0)), iV ((V11.getD 41 0)), iV ((V11.getD 42 0)), iV ((V11.getD 43 0)), iV ((V11.getD 44 0)), iV ((V11.getD 45 0)), iV ((V11.getD 46 0)), iV ((V11.getD 47 0)), iV ((V11.getD 48 0)), iV ((V11.getD 49 0)), iV ((V11.getD 50 0)), iV ((V11.getD 51 0)), iV ((V11.getD 52 0)), iV ((V11.getD 53 0)), iV ((V11.getD 54 0)), iV ((V11.getD 55 0)), iV ((V11.getD 56 0)), iV ((V11.getD 57 0)), iV ((V11.getD 58 0)), iV ((V11.getD 59 0)), iV ((V11.getD 60 0)), iV ((V11.getD 61 0)), iV ((V11.getD 62 0)), iV ((V11.getD 63 0))]) h15 fun _ h17 => go [] <| dw (fls [0, 1, 2, 3, 5, 6, 7, 8] (Tr.an 4 (Tr.fl 9 (Tr.an 10 (Tr.fl 11 Tr.nil))))) h17 fun _ h19 => ?_
 have h21 := tk3 (sf2 (sf1 (sf2 h19)))
 refine go [rd 3 3 0 0 1 h19, rd 3 8 0 1 64 h19] <| cG Tryz.call182 (scopy_ht s10 64 (As X)) h21 ?_
 rintro v K _ (⟨b20, rfl, rfl⟩) h23
 have h24 := ap2 h23
 refine ⟨kd [rd 0 8 2 1 64 h24], ?_⟩
 refine go [] <| nG (fun q_ => pV q_) 265 [pV b20, iV ((V11.getD 0 0)), iV ((V11.getD 1 0)), iV ((V11.getD 2 0)), iV ((V11.getD 3 0)), iV ((V11.getD 4 0)), iV ((V11.getD 5 0)), iV ((V11.getD 6 0)), iV ((V11.getD 7 0)), iV ((V11.getD 8 0)), iV ((V11.getD 9 0)), iV ((V11.getD 10 0)), iV ((V11.getD 11 0)), iV ((V11.getD 12 0)), iV ((V11.getD 13 0)), iV ((V11.getD 14 0)), iV ((V11.getD 15 0)), iV ((V11.getD 16 0)), iV ((V11.getD 17 0)), iV ((V11.getD 18 0)), iV ((V11.getD 19 0)), iV ((V11.getD 20 0)), iV ((V11.getD 21 0)), iV ((V11.getD 22 0)), iV ((V11.getD 23 0)), iV ((V11.getD 24 0)), iV ((V11.getD 25 0)), iV ((V11.getD 26 0)), iV ((V11.getD 27 0)), iV ((V11.getD 28 0)), iV ((V11.getD 29 0)), iV ((V11.getD 30 0)), iV ((V11.getD 31 0)), iV ((V11.getD 32 0)), iV ((V11.getD 33 0)), iV ((V11.getD 34 0)), iV ((V11.getD 35 0)), iV ((V11.getD 36 0)), iV ((V11.getD 37 0)), iV ((V11.getD 38 0)), iV ((V11.getD 39 0)), iV ((V11.getD 40 0)), iV ((V11.getD 41 0)), iV ((V11.getD 42 0)), iV ((V11.getD 43 0)), iV ((V11.getD 44 0)), iV ((V11.getD 45 0)), iV ((V11.getD 46 0)), iV ((V11.getD 47 0)), iV ((V11.getD 48 0)), iV ((V11.getD 49 0)), iV ((V11.getD 50 0)), iV ((V11.getD 51 0)), iV ((V11.getD 52 0)), iV ((V11.getD 53 0)), iV ((V11.getD 54 0)), iV ((V11.getD 55 0)), iV ((V11.getD 56 0)), iV ((V11.getD 57 0)), iV ((V11.getD 58 0)), iV ((V11.getD 59 0)), iV ((V11.getD 60 0)), iV ((V11.getD 61 0)), iV ((V11.getD 62 0)), iV ((V11.getD 63 0))] h24 (fun r25 w26 h27 => ⟨kd [], ?_⟩)
 refine go [] ?_
 have h28 : sat g w26 [Cl r25 ((pV b20) :: fl eI V11) 265, Tb s10 64 (As X), Tb b20 64 (As X), Cl b [pV s10, iV ((V11.getD 0 0)), iV ((V11.getD 1 0)), iV ((V11.getD 2 0)), iV ((V11.getD 3 0)), iV ((V11.getD 4 0)), iV ((V11.getD 5 0)), iV ((V11.getD 6 0)), iV ((V11.getD 7 0)), iV ((V11.getD 8 0)), iV ((V11.getD 9 0)), iV ((V11.getD 10 0)), iV ((V11.getD 11 0)), iV ((V11.getD 12 0)), iV ((V11.getD 13 0)), iV ((V11.getD 14 0)), iV ((V11.getD 15 0)), iV ((V11.getD 16 0)), iV ((V11.getD 17 0)), iV ((V11.getD 18 0)), iV ((V11.getD 19 0)), iV ((V11.getD 20 0)), iV ((V11.getD 21 0)), iV ((V11.getD 22 0)), iV ((V11.getD 23 0)), iV ((V11.getD 24 0)), iV ((V11.getD 25 0)), iV ((V11.getD 26 0)), iV ((V11.getD 27 0)), iV ((V11.getD 28 0)), iV ((V11.getD 29 0)), iV ((V11.getD 30 0)), iV ((V11.getD 31 0)), iV ((V11.getD 32 0)), iV ((V11.getD 33 0)), iV ((V11.getD 34 0)), iV ((V11.getD 35 0)), iV ((V11.getD 36 0)), iV ((V11.getD 37 0)), iV ((V11.getD 38 0)), iV ((V11.getD 39 0)), iV ((V11.getD 40 0)), iV ((V11.getD 41 0)), iV ((V11.getD 42 0)), iV ((V11.getD 43 0)), iV ((V11.getD 44 0)), iV ((V11.getD 45 0)), iV ((V11.getD 46 0)), iV ((V11.getD 47 0)), iV ((V11.getD 48 0)), iV ((V11.getD 49 0)), iV ((V11.getD 50 0)), iV ((V11.getD 51 0)), iV ((V11.getD 52 0)), iV ((V11.getD 53 0)), iV ((V11.getD 54 0)), iV ((V11.getD 55 0)), iV ((V11.getD 56 0)), iV ((V11.getD 57 0)), iV ((V11.getD 58 0)), iV ((V11.getD 59 0)), iV ((V11.getD 60 0)), iV ((V11.getD 61 0)), iV ((V11.getD 62 0)), iV ((V11.getD 63 0))] 265, R] := by rw [vlit hP12.2.1]; exact h27
 have h30 : sat g w26 [Dk r25 X, Tb s10 64 (As X), Cl b [pV s10, iV ((V11.getD 0 0)), iV ((V11.getD 1 0)), iV ((V11.getD 2 0)), iV ((V11.getD 3 0)), iV ((V11.getD 4 0)), iV ((V11.getD 5 0)), iV ((V11.getD 6 0)), iV ((V11.getD 7 0)), iV ((V11.getD 8 0)), iV ((V11.getD 9 0)), iV ((V11.getD 10 0)), iV ((V11.getD 11 0)), iV ((V11.getD 12 0)), iV ((V11.getD 13 0)), iV ((V11.getD 14 0)), iV ((V11.getD 15 0)), iV ((V11.getD 16 0)), iV ((V11.getD 17 0)), iV ((V11.getD 18 0)), iV ((V11.getD 19 0)), iV ((V11.getD 20 0)), iV ((V11.getD 21 0)), iV ((V11.getD 22 0)), iV ((V11.getD 23 0)), iV ((V11.getD 24 0)), iV ((V11.getD 25 0)), iV ((V11.getD 26 0)), iV ((V11.getD 27 0)), iV ((V11.getD 28 0)), iV ((V11.getD 29 0)), iV ((V11.getD 30 0)), iV ((V11.getD 31 0)), iV ((V11.getD 32 0)), iV ((V11.getD 33 0)), iV ((V11.getD 34 0)), iV ((V11.getD 35 0)), iV ((V11.getD 36 0)), iV ((V11.getD 37 0)), iV ((V11.getD 38 0)), iV ((V11.getD 39 0)), iV ((V11.getD 40 0)), iV ((V11.getD 41 0)), iV ((V11.getD 42 0)), iV ((V11.getD 43 0)), iV ((V11.getD 44 0)), iV ((V11.getD 45 0)), iV ((V11.getD 46 0)), iV ((V11.getD 47 0)), iV ((V11.getD 48 0)), iV ((V11.getD 49 0)), iV ((V11.getD 50 0)), iV ((V11.getD 51 0)), iV ((V11.getD 52 0)), iV ((V11.getD 53 0)), iV ((V11.getD 54 0)), iV ((V11.getD 55 0)), iV ((V11.getD 56 0)), iV ((V11.getD 57 0)), iV ((V11.getD 58 0)), iV ((V11.getD 59 0)), iV ((V11.getD 60 0)), iV ((V11.getD 61 0)), iV ((V11.getD 62 0)), iV ((V11.getD 63 0))] 265, R] := dk_close hP12 rfl (tk5 (sf4 (sf4 (sf3 (sf4 (sf4 h28))))))
 have h32 : sat g w26 [Cl b ((pV s10) :: fl eI V11) 265, Dk r25 X, Tb s10 64 (As X), R] := by rw [vlit hP12.2.1]; exact (tk4 (sf3 (sf2 (sf2 (sf3 h30)))))
 have h34 : sat g w26 [Dk b X, Dk r25 X, R] := dk_close hP12 rfl (tk4 (sf3 (sf3 (sf2 (sf3 h32)))))
 exact en (pV r25) [] ⟨_, _, rfl, ⟨r25, rfl, rfl⟩, h34⟩

theorem grant_ht (b : Nat) (X : Xs) (t now : Int) (ht : 1 ≤ t ∧ t ≤ 1048576) (hn : 0 ≤ now ∧ now ≤ 1099511627776) : HT Tryz.prog 203 [pV b, iV t, iV now] [Dk b X] (fun r K => r = .tuple #[.agg #[iV (gntO X t now).1, iV (gntO X t now).2.1, uV (gntO X t now).2.2], iV (gntE X t now)] ∧ K = [Dk b (gntX X t now)]) := by
 refine hiS Tryz.func203 Tryz.ntmps203 fun g w0 R h0 => go [] <| nP 72 [iV 0, iV 0, uV 0] h0 (fun r10 _ h12 => ?_)
 obtain ⟨s14, V15, hP16, h17⟩ := dk_open (tk3 (sf2 (sf1 (sf2 h12))))
 have hb18 := tb_bd (j := 1) h17 rfl
 have hAl_ := hb18.1; have hok_ := hb18.2.2.2
 refine go [] <| cl1 Tryz.call191 (dmade_cl b s14 (fl eI V15)) h17 fun _ h20 => go [] <| cl0 Tryz.call255 (lspan_ht t (by omega)) h20 fun _ h22 => go [] <| cl0 Tryz.call256 (ltime_ht now (by omega)) h22 fun _ h24 => go [] ?_
 by_cases c25 : 1099511627776 - t < now
 ·
  refine cl0 Tryz.call257 (lend_over t now (by omega) (by omega)) h24 fun _ h27 => ?_
  have h28 := tk4 (sf3 (sf2 (sf2 (sf3 h27))))
  refine go [] <| sP [(0, iV 0), (1, iV 0), (2, uV 0)] [iV 0, iV 0, uV 0] h28 fun w29 h30 => go [] ?_
  have hp_ := gnt_over (X := X) (t := t) (now := now) (by omega)
  have h32 : sat g w29 [Dk b X, Cl r10 [iV 0, iV 0, uV 0] 72, R] := dk_close hP16 rfl (tk4 (sf3 (sf3 (sf1 (sf3 h30)))))
  exact en (.tuple #[.agg #[iV 0, iV 0, uV 0], iV 17]) [rd 0 0 0 0 3 h30] ⟨_, [Dk b X], rfl, ⟨by rw [hp_.1, hp_.2.1], by rw [hp_.2.2]⟩, (tk2 (sf1 (sf2 h32)))⟩
 refine cl0 Tryz.call257 (lend_ok t now (by omega) (by omega) (by omega)) h24 fun _ h35 => ?_
 have h36 := tk4 (sf3 (sf2 (sf3 (sf3 h35))))
 refine go [rd 8 3 0 0 1 h35] <| cl1 Tryz.call207 (take_ht s14 64 (As X)) h36 fun _ h38 => go [] <| nP 148 [iV 0, uV 0] h38 (fun r39 _ h41 => ?_)
 refine sP [(0, iV ((takeV (As X)).1)), (1, uV ((takeV (As X)).2.1))] [iV ((takeV (As X)).1), uV ((takeV (As X)).2.1)] h41 fun _ h43 => go [.s 9 1] ?_
 by_cases c44 : (takeV (As X)).2.2 = 0
 ·
  obtain ⟨htk_, i_, g_, u_, hf_, hx_, hi_, hg_, hA_⟩ := take_free (X := X) (v := now + t) (by omega)
  have hi64_ : i_ < 64 := by have h_ := (List.getElem?_eq_some_iff.1 hx_).1; rw [hP16.1] at h_; exact h_
  refine go [.v 9 1 (qnF ((takeV (As X)).2.2) 0)] <| dw (fls [0, 1, 2, 3, 4, 5, 6] (Tr.an 7 Tr.nil)) h43 fun _ h46 => go [rd 11 2 0 0 1 h46, .s 11 6] <| lw (.pointer (some ⟨b, i_ + 1, none⟩)) (fun _ => law_indexArr (x := (Operand.tmp 53)) (i := (Operand.tmp 50)) (b := b) (off := 1) (z := ((takeV (As X)).1)) (by kernel_rfl) Tryz.underlying263 1 (by kernel_rfl) i_ (by kernel_rfl) (by kernel_rfl) (by omega) (by omega) (i_ + 1) (by omega) _) ?_
  have h47 := tk5 (sf4 (sf3 (sf3 (sf4 (sf4 h46)))))
  refine actG ?_
  refine an_store [(i_ + 1, iV (now + t))] (cs' := ((pV s14) :: fl eI (V15.set i_ (now + t)))) (by kernel_rfl) (by kernel_rfl) (allq ⟨⟨by rw [rlen1, hP16.2.1]; omega, rfl⟩, trivial⟩) (rput1 (by omega) (by rw [hP16.2.1]; omega)) h47 ?_
  intro _ h49
  refine ⟨kd [], nxN ?_⟩
  have h50 := tk5 (sf4 (sf3 (sf3 (sf3 (sf4 h49)))))
  refine go [rd 12 1 1 0 1 h49, rd 12 3 1 1 1 h49] <| sP [(0, iV 3), (1, iV ((takeV (As X)).1)), (2, uV ((takeV (As X)).2.1))] [iV 3, iV ((takeV (As X)).1), uV ((takeV (As X)).2.1)] h50 fun w51 h52 => go [] ?_
  have hp_ := gnt_ok (t := t) (now := now) (show ¬ 1099511627776 - t < now from by omega) hf_
  have h54 : sat g w51 [Dk b (gntX X t now), Cl r10 [iV 3, iV ((takeV (As X)).1), uV ((takeV (As X)).2.1)] 72, Cl r39 [iV ((takeV (As X)).1), uV ((takeV (As X)).2.1)] 148, R] := dk_close (by rw [hp_.2.2]; exact dk_set hP16 hi64_) (hA_.trans (by rw [hp_.2.2])) (tk5 (sf4 (sf4 (sf2 (sf3 (sf4 h52))))))
  exact en (.tuple #[.agg #[iV 3, iV ((takeV (As X)).1), uV ((takeV (As X)).2.1)], iV 0]) [rd 0 0 0 0 3 h52] ⟨_, _, rfl, ⟨by rw [hp_.1, hp_.2.1, hi_, hg_], rfl⟩, (tk2 (sf1 (sf3 h54)))⟩
 have h56 := tk5 (sf4 (sf3 (sf3 (sf3 (sf4 h43)))))
 refine go [.v 9 1 (qnT ((takeV (As X)).2.2) 0)] <| sP [(0, iV 0), (1, iV 0), (2, uV 0)] [iV 0, iV 0, uV 0] h56 fun w57 h58 => go [] ?_
 have ht_ := take_full (X := X) (by omega); have hp_ := gnt_full (t := t) (now := now) (show ¬ 1099511627776 - t < now from by omega) ht_.1; have ht2_ := ht_.2.1
 have h60 : sat g w57 [Dk b X, Cl r10 [iV 0, iV 0, uV 0] 72, Cl r39 [iV ((takeV (As X)).1), uV ((takeV (As X)).2.1)] 148, R] := dk_close hP16 ht_.2.2 (tk5 (sf4 (sf3 (sf2 (sf2 (sf4 h58))))))
 exact en (.tuple #[.agg #[iV 0, iV 0, uV 0], iV ((takeV (As X)).2.2)]) [rd 0 0 0 0 3 h58] ⟨_, [Dk b X], rfl, ⟨by rw [hp_.1, hp_.2.1, ht2_], by rw [hp_.2.2]⟩, (tk2 (sf1 (sf3 h60)))⟩

end Go.Proofs.YtehlamblpekmkaaGreatDoor

/- Walks, printed by my generator P:../out/o5.py. -/
namespace Go.Proofs.YtehlamblpekmkaaGreatDoor
set_option maxHeartbeats 4000000
theorem return1_ht (b s : Nat) (V : List Int) (hV : V.length = 64) (c1 c2 : Nat) (a : Option Addr) (X : Xs) (y z : Int) (q : Nat) (hat : (As X)[q]? = some (1, z)) (hy : y = (q : Int)) : HT Tryz.prog 281 [.pointer a, pV c1, pV c2] [Cl b ((pV s) :: fl eI V) 265, Tb s 64 (As X), Cl c1 [pV b] 183, Cl c2 [iV 3, iV y, uV z] 72] (fun v K => v = iV 0 ∧ K = [Cl b ((pV s) :: fl eI V) 265, Tb s 64 (giveA (As X) q z), Cl c1 [pV b] 183, Cl c2 [iV 3, iV y, uV z] 72]) := by
 refine hiS Tryz.func281 Tryz.ntmps281 fun g w0 R h0 => go [] <| dw (fls [0, 1, 2, 3, 4] (Tr.an 5 (Tr.an 6 (Tr.fl 7 Tr.nil)))) h0 fun _ h11 => go [rd 1 0 2 0 1 h11, rd 1 3 0 0 1 h11, rd 1 4 3 0 3 h11] <| cw0 Tryz.call282 (lref_ht 3 y z) h11 fun _ h13 => ⟨kd [rd 0 3 0 0 1 h13, rd 0 0 2 0 1 h13], ?_⟩
 refine cw1 Tryz.call197 (give_ht s 64 (As X) q (1, z) hat y z ⟨by omega, rfl, rfl⟩) (tk5 (sf4 (sf3 (sf4 (sf4 (sf4 h13)))))) fun _ h16 => ⟨kd [], ?_⟩
 refine go [] ?_
 exact en (iV 0) [] ⟨_, _, rfl, ⟨rfl, rfl⟩, (tk5 (sf4 (sf3 (sf4 (sf4 (sf4 h16))))))⟩

theorem dwith_g (b c1 c2 : Nat) (X : Xs) (y z : Int) (q : Nat) (hat : (As X)[q]? = some (1, z)) (hy : y = (q : Int)) (hz : 1 ≤ z ∧ z ≤ 4294967295) : HT Tryz.prog 280 [pV b, .agg #[iV 3, iV y, uV z], .bool true, .func (Fn.func 281) #[] #[pV c1, pV c2]] [Dk b X, Cl c1 [pV b] 183, Cl c2 [iV 3, iV y, uV z] 72] (fun v K => v = iV 0 ∧ K = [Dk b (giv X (3, y, z)), Cl c1 [pV b] 183, Cl c2 [iV 3, iV y, uV z] 72]) := by
 refine hiS Tryz.func280 Tryz.ntmps280 fun g w0 R h0 => ?_
 have hbd_ := dk_bd (j := 0) h0 rfl; have hq64_ : q < 64 := by have h_ := (List.getElem?_eq_some_iff.1 hat).1; rw [as_len, hbd_] at h_; exact h_
 refine go [] <| nP 72 [iV 3, iV y, uV z] h0 (fun r10 _ h12 => ?_)
 obtain ⟨s14, V15, hP16, h17⟩ := dk_open (tk5 (sf4 (sf3 (sf4 (sf4 (sf4 h12))))))
 have hb18 := tb_bd (j := 1) h17 rfl
 have hAl_ := hb18.1; have hok_ := hb18.2.2.2
 refine go [] <| cl1 Tryz.call191 (dmade_cl b s14 (fl eI V15)) h17 fun _ h20 => go [rd 3 4 2 0 1 h20, rd 3 8 2 0 3 h20] <| cl0 Tryz.call192 (couter_ok 3 y z (by omega) (by omega) (by omega)) h20 fun _ h22 => go [] <| dw (fls [0, 1, 2, 3, 4] (Tr.an 5 (Tr.an 6 (Tr.fl 7 Tr.nil)))) h22 fun _ h24 => go [rd 5 3 0 0 1 h24, rd 5 4 2 0 3 h24] <| cw0 Tryz.call282 (lref_ht 3 y z) h24 fun _ h26 => ⟨kd [rd 0 3 0 0 1 h26], ?_⟩
 refine cw1 Tryz.call248 (check_ok s14 64 (As X) q (1, z) hat y z ⟨by omega, rfl, rfl⟩) (tk6 (sf5 (sf4 (sf5 (sf5 (sf5 (sf5 h26))))))) fun _ h29 => ⟨kd [], ?_⟩
 refine go [] <| dw (fls [0, 1, 2, 3, 4, 5, 6] (Tr.an 7 (Tr.fl 8 Tr.nil))) h29 fun _ h31 => go [rd 8 3 2 1 1 h31, .s 8 6] <| lw (.pointer (some ⟨b, q + 1, none⟩)) (fun _ => law_indexArr (x := (Operand.tmp 42)) (i := (Operand.tmp 40)) (b := b) (off := 1) (z := y) (by kernel_rfl) Tryz.underlying263 1 (by kernel_rfl) q (by kernel_rfl) (by kernel_rfl) (by omega) (by omega) (q + 1) (by omega) _) <| cw4 Tryz.call281 (return1_ht b s14 V15 hP16.2.1 c1 c2 (some ⟨b, q + 1, none⟩) X y z q hat hy) (tk6 (sf5 (sf4 (sf5 (sf5 (sf3 (sf5 h31))))))) fun w33 h34 => ⟨kd [], ?_⟩
 refine go [] ?_
 have h35 : sat g w33 [Dk b (giv X (3, y, z)), Cl c1 [pV b] 183, Cl c2 [iV 3, iV y, uV z] 72, Cl r10 [iV 3, iV y, uV z] 72, R] := dk_close (dk_giv hP16) (giveA_giv X (3, y, z) hy) h34
 exact en (iV 0) [] ⟨_, _, rfl, ⟨rfl, rfl⟩, (tk4 (sf3 (sf3 (sf3 (sf4 h35)))))⟩

theorem dreturn_ht (b : Nat) (X : Xs) (y z : Int) (q : Nat) (hat : (As X)[q]? = some (1, z)) (hy : y = (q : Int)) (hz : 1 ≤ z ∧ z ≤ 4294967295) : HT Tryz.prog 246 [pV b, .agg #[iV 3, iV y, uV z]] [Dk b X] (fun v K => v = iV 0 ∧ K = [Dk b (giv X (3, y, z))]) := by
 refine hiS Tryz.func246 Tryz.ntmps246 fun g w0 R h0 => go [] <| nP 183 [pV b] h0 (fun r10 _ h12 => ?_)
 refine nP 72 [iV 3, iV y, uV z] h12 (fun r13 _ h15 => ?_)
 have h16 := tk4 (sf3 (sf2 (sf1 (sf3 h15))))
 refine go [rd 1 0 1 0 1 h15, rd 1 1 0 0 3 h15] <| cl3 Tryz.call280 (dwith_g b r10 r13 X y z q hat hy hz) h16 fun _ h18 => go [] ?_
 exact en (iV 0) [] ⟨_, _, rfl, ⟨rfl, rfl⟩, (tk2 (sf1 (sf3 h18)))⟩

theorem dall_ht (b : Nat) (X : Xs) : HT Tryz.prog 321 [pV b] [Dk b X] (fun v K => ∃ (p : Option Addr) (c : Nat), v = .slice p ((inS 1 (As X) 0).length) c ∧ K = [Dk b X, Sl 72 3 p (((inS 1 (As X) 0).length)) c (fl eO (allK 3 X))]) := by
 refine hiS Tryz.func321 Tryz.ntmps321 fun g w0 R h0 => ?_
 obtain ⟨s10, V11, hP12, h13⟩ := dk_open h0
 have hb14 := tb_bd (j := 1) h13 rfl
 have hAl_ := hb14.1; have hok_ := hb14.2.2.2
 refine go [] <| cl1 Tryz.call191 (dmade_cl b s10 (fl eI V11)) h13 fun _ h16 => ?_
 have h19 := tk3 (sf2 (sf1 (sf2 h16)))
 refine go [rd 4 3 0 0 1 h16] <| cP Tryz.call293 (taken_ht s10 64 (As X)) h19 ?_
 rintro v K w20 (⟨p17, c18, rfl, rfl⟩) h21
 have h22 := ap2 h21
 refine go [] ?_
 have h24 : sat g w20 [Dk b X, Sl 148 2 p17 (((inS 1 (As X) 0).length)) c18 (fl eRf (inS 1 (As X) 0)), R] := dk_close hP12 rfl (tk4 (sf3 (sf2 (sf2 (sf3 h22)))))
 have hB_ := dk_bd (j := 0) h24 rfl; have hl_ : ((inS 1 (As X) 0).length) ≤ 64 := by have h1_ := inS_len 1 (As X) 0; rw [as_len, hB_] at h1_; exact h1_
 have h25 : sat g w20 [Sl 72 3 none 0 0 (fl eO []), Dk b X, Sl 148 2 p17 (((inS 1 (As X) 0).length)) c18 (fl eRf (inS 1 (As X) 0)), R] := sl_nil 72 3 h24
 refine lpS (fun mz_ a w => ∃ i : Nat, ∃ p2 : Option Addr, ∃ c2 : Nat, ∃ lr : Fr, mz_ = ((inS 1 (As X) 0).length) - i ∧ (i ≤ ((inS 1 (As X) 0).length)) ∧ a = mk 29 (([(3, .slice p2 i c2), (13, .slice p17 (((inS 1 (As X) 0).length)) c18), (14, iV ((((inS 1 (As X) 0).length : Nat) : Int))), (15, iV (i : Int))] : Fr) ++ lr) ∧ sat g w [Sl 72 3 p2 i c2 (fl eO ((allK 3 X).take i)), Sl 148 2 p17 (((inS 1 (As X) 0).length)) c18 (fl eRf (inS 1 (As X) 0)), Dk b X, R]) (((inS 1 (As X) 0).length) - 0) ⟨0, none, 0, _, rfl, (Nat.zero_le _), (lvF [.k 3 (.slice none 0 0), .k 13 (.slice p17 (((inS 1 (As X) 0).length)) c18), .k 14 (iV ((((inS 1 (As X) 0).length : Nat) : Int))), .o 15 (oJ .i64 0 (0 : Int))]), (tk4 (sf3 (sf3 (sf2 (sf3 h25)))))⟩ ?_
 rintro m28 a29 w30 ⟨i, p2, c2, lr27, rfl, hi, rfl, h31⟩
 refine ga <| go [.s 5 0] ?_
 by_cases c32 : (i : Int) < (((inS 1 (As X) 0).length : Nat) : Int)
 ·
  obtain ⟨b33, hp34⟩ := sl_ptr0 (j := 1) h31 rfl (by omega)
  refine go [.v 5 0 (oT ((i : Int) < (((inS 1 (As X) 0).length : Nat) : Int))), .s 6 0] <| lwP (.pointer (some ⟨b33, i * 2, none⟩)) (law_indexSlP (x := (Operand.tmp 13)) (i := (Operand.tmp 15)) (p := p17) (b := b33) (off := 0) (z := (i : Int)) (len := (((inS 1 (As X) 0).length))) (cap := c18) (by kernel_rfl) Tryz.underlying375 2 (by kernel_rfl) i (by kernel_rfl) hp34 (by kernel_rfl) (by omega) (by omega) (i * 2) (by omega) _) ?_
  have h35 := tk4 (sf3 (sf2 (sf3 (sf3 h31))))
  have hl36 := fl_n eRf_ok (by decide) h35
  have hx37 : (inS 1 (As X) 0)[i]? = some (slI X i, slG X i) := by unfold slI slG; rw [List.getElem?_eq_getElem (by omega), getD_some (List.getElem?_eq_getElem (by omega))]
  refine go [.r 6 1 b33 (i * 2) [iV (((slI X i : Nat) : Int)), uV ((slG X i))] ⟨gv_cell (j := 0) h35 rfl (gv_sl _ _ _) hp34 (fl_get eRf_ok (j := 0) (v := iV (((slI X i : Nat) : Int))) hx37 rfl) (i * 2) (by omega), gv_cell (j := 0) h35 rfl (gv_sl _ _ _) hp34 (fl_get eRf_ok (j := 1) (v := uV ((slG X i))) hx37 rfl) (i * 2 + 1) (by omega), trivial⟩] <| nP 148 [iV 0, uV 0] h35 (fun r38 _ h40 => ?_)
  refine sP [(0, iV (((slI X i : Nat) : Int))), (1, uV ((slG X i)))] [iV (((slI X i : Nat) : Int)), uV ((slG X i))] h40 fun _ h42 => go [rd 7 2 0 0 1 h42, rd 7 4 0 1 1 h42] <| nG (fun q_ => .slice (some ⟨q_, 0, none⟩) 1 1) 72 [iV 3, iV (((slI X i : Nat) : Int)), uV ((slG X i))] h42 (fun r43 _ h45 => ⟨kd [], ?_⟩)
  have h46 := tk6 (sf5 (sf4 (sf4 (sf4 (sf5 (sf5 h45))))))
  refine actG ?_
  refine an_append (d := 26) (sz := 3) (s := (Operand.tmp 19)) (x := (Operand.tmp 25)) (z := .agg #[iV 0, iV 0, uV 0]) (p := p2) (m := i) (c := c2) (k := 1) (c2 := 1) (a := ⟨r43, 0, none⟩) (by_ := 24) (by kernel_rfl) (by kernel_rfl) rfl Tryz.underlying314 (by kernel_rfl) rfl (by decide) (by kernel_rfl) (by kernel_rfl) h46 (fl eO [(3, ((slI X i : Nat) : Int), (slG X i))]) rfl (fun j u hj => by rw [add_off]; exact sat_cell h46 1 rfl (by rw [Nat.zero_add]; exact hj)) (fl_one eO_ok _) (by omega) (by omega) (i + 1) (by omega) ?_
  intro p47 cap48 w49 h50
  have h51 : sat g w49 [Sl 72 3 p47 (i + 1) cap48 (fl eO (((allK 3 X).take i) ++ [(3, ((slI X i : Nat) : Int), (slG X i))])), Cl r43 [iV 3, iV (((slI X i : Nat) : Int)), uV ((slG X i))] 72, Cl r38 [iV (((slI X i : Nat) : Int)), uV ((slG X i))] 148, Sl 148 2 p17 (((inS 1 (As X) 0).length)) c18 (fl eRf (inS 1 (As X) 0)), Dk b X, R] := sat_imp h50 (fun _ hh => by rw [fl_app]; exact hh)
  obtain ⟨hn52, hn53⟩ := sl_le h51
  refine nxA <| go [.v 8 0 (oIr ((i : Int) + 1))] ?_
  refine enL ?_
  have h54 : sat g w49 [Sl 72 3 p47 (i + 1) cap48 (fl eO ((allK 3 X).take (i + 1))), Cl r43 [iV 3, iV (((slI X i : Nat) : Int)), uV ((slG X i))] 72, Cl r38 [iV (((slI X i : Nat) : Int)), uV ((slG X i))] 148, Sl 148 2 p17 (((inS 1 (As X) 0).length)) c18 (fl eRf (inS 1 (As X) 0)), Dk b X, R] := sat_imp h51 (fun _ hh_ => by rw [show ((((allK 3 X).take i) ++ [(3, ((slI X i : Nat) : Int), (slG X i))]) : List Ky) = ((allK 3 X).take (i + 1)) from (allK_take (by omega))] at hh_; exact hh_)
  have h56 := tk4 (tk6 (sf5 (sf5 (sf5 (sf5 (sf2 (sf2 h54)))))))
  change ∃ n', n' < _ ∧ _
  refine ⟨(((inS 1 (As X) 0).length) - (i + 1)), by omega, (i + 1), p47, cap48, _, rfl, (by omega), (lvF [.k 3 (.slice p47 (i + 1) cap48), .k 13 (.slice p17 (((inS 1 (As X) 0).length)) c18), .k 14 (iV ((((inS 1 (As X) 0).length : Nat) : Int))), .o 15 (oJ .i64 ((i : Int) + 1) ((((i + 1) : Nat) : Int)))]), h56⟩
 refine go [.v 5 0 (oF ((i : Int) < (((inS 1 (As X) 0).length : Nat) : Int)))] <| up <| go [] ?_
 have hi_ : i = ((inS 1 (As X) 0).length) := by omega
 have h57 : sat g w30 [Sl 72 3 p2 (((inS 1 (As X) 0).length)) c2 (fl eO (allK 3 X)), Sl 148 2 p17 (((inS 1 (As X) 0).length)) c18 (fl eRf (inS 1 (As X) 0)), Dk b X, R] := sat_imp h31 (fun _ hh_ => by rw [hi_, List.take_of_length_le (by rw [allK_len]; exact Nat.le_refl _)] at hh_; exact hh_)
 exact en (.slice p2 i c2) [] ⟨_, _, rfl, ⟨p2, c2, by rw [hi_], rfl⟩, (tk3 (sf2 (sf2 (sf3 (tk4 (sf3 (sf2 (sf2 (sf3 h57)))))))))⟩

end Go.Proofs.YtehlamblpekmkaaGreatDoor

/- Walks, printed by my generator P:../out/o6.py. -/
namespace Go.Proofs.YtehlamblpekmkaaGreatDoor
set_option maxHeartbeats 4000000
theorem kyO : KyOk Tryz.prog 72 kv := kyOf keyok
theorem lchk_ht (ta x y z wy an : Int) (hz0 : 0 ≤ z) (hz1 : z ≤ 4294967295) : HT Tryz.prog 243 [.agg #[iV ta, iV x, iV y, uV z, iV wy, iV an]] [] (fun v K => v = iV (attE ⟨ta, (x, y, z), wy, an⟩) ∧ K = []) := by
 refine hiS Tryz.func243 Tryz.ntmps243 fun g w0 R h0 => go [] <| nP 74 [iV ta, iV x, iV y, uV z, iV wy, iV an] h0 (fun _ _ h12 => ?_)
 refine go [rd 1 1 0 0 1 h12, .s 1 2] ?_
 by_cases c13 : ta < 0
 ·
  refine go [.v 1 2 (oT (ta < 0))] ?_
  exact en (iV 2) [] ⟨_, _, rfl, ⟨by unfold attE; rw [if_neg (by simp only [attP, outE_iff]; omega)], rfl⟩, (tk1 (sf1 h12))⟩
 refine go [.v 1 2 (oF (ta < 0)), rd 1 5 0 0 1 h12, .s 1 6] ?_
 by_cases c15 : ta > 1099511627776
 ·
  refine go [.v 1 6 (oT (ta > 1099511627776))] ?_
  exact en (iV 2) [] ⟨_, _, rfl, ⟨by unfold attE; rw [if_neg (by simp only [attP, outE_iff]; omega)], rfl⟩, (tk1 (sf1 h12))⟩
 refine go [.v 1 6 (oF (ta > 1099511627776)), rd 1 10 0 1 3 h12] ?_
 by_cases c17 : 1 ≤ x
 ·
  by_cases c18 : x ≤ 3
  ·
   by_cases c19 : 0 ≤ y
   ·
    by_cases c20 : y ≤ 63
    ·
     by_cases c21 : 1 ≤ z
     ·
      refine cl0 Tryz.call192 (couter_ok x y z (by omega) (by omega) (by omega)) h12 fun _ h23 => go [rd 1 16 0 4 1 h23, .s 1 17] ?_
      by_cases c24 : wy < 1
      ·
       refine go [.v 1 17 (oT (wy < 1))] ?_
       exact en (iV 2) [] ⟨_, _, rfl, ⟨by unfold attE; rw [if_neg (by simp only [attP, outE_iff]; omega)], rfl⟩, (tk1 (sf1 h23))⟩
      refine go [.v 1 17 (oF (wy < 1)), rd 1 21 0 4 1 h23, .s 1 22] ?_
      by_cases c26 : wy > 3
      ·
       refine go [.v 1 22 (oT (wy > 3))] ?_
       exact en (iV 2) [] ⟨_, _, rfl, ⟨by unfold attE; rw [if_neg (by simp only [attP, outE_iff]; omega)], rfl⟩, (tk1 (sf1 h23))⟩
      refine go [.v 1 22 (oF (wy > 3)), rd 1 26 0 5 1 h23, .s 1 27] ?_
      by_cases c28 : an < 1
      ·
       refine go [.v 1 27 (oT (an < 1))] ?_
       exact en (iV 2) [] ⟨_, _, rfl, ⟨by unfold attE; rw [if_neg (by simp only [attP, outE_iff]; omega)], rfl⟩, (tk1 (sf1 h23))⟩
      refine go [.v 1 27 (oF (an < 1)), rd 1 31 0 5 1 h23, .s 1 32] ?_
      by_cases c30 : an > 3
      ·
       refine go [.v 1 32 (oT (an > 3))] ?_
       exact en (iV 2) [] ⟨_, _, rfl, ⟨by unfold attE; rw [if_neg (by simp only [attP, outE_iff]; omega)], rfl⟩, (tk1 (sf1 h23))⟩
      refine go [.v 1 32 (oF (an > 3))] ?_
      exact en (iV 0) [] ⟨_, _, rfl, ⟨by unfold attE; rw [if_pos (by simp only [attP, outE_iff]; omega)], rfl⟩, (tk1 (sf1 h23))⟩
     refine cl0 Tryz.call192 (couter_no x y z (by omega) (by omega) (by omega)) h12 fun _ h34 => go [] ?_
     exact en (iV 2) [] ⟨_, _, rfl, ⟨by unfold attE; rw [if_neg (by simp only [attP, outE_iff]; omega)], rfl⟩, (tk1 (sf1 h34))⟩
    refine cl0 Tryz.call192 (couter_no x y z (by omega) (by omega) (by omega)) h12 fun _ h37 => go [] ?_
    exact en (iV 2) [] ⟨_, _, rfl, ⟨by unfold attE; rw [if_neg (by simp only [attP, outE_iff]; omega)], rfl⟩, (tk1 (sf1 h37))⟩
   refine cl0 Tryz.call192 (couter_no x y z (by omega) (by omega) (by omega)) h12 fun _ h40 => go [] ?_
   exact en (iV 2) [] ⟨_, _, rfl, ⟨by unfold attE; rw [if_neg (by simp only [attP, outE_iff]; omega)], rfl⟩, (tk1 (sf1 h40))⟩
  refine cl0 Tryz.call192 (couter_no x y z (by omega) (by omega) (by omega)) h12 fun _ h43 => go [] ?_
  exact en (iV 2) [] ⟨_, _, rfl, ⟨by unfold attE; rw [if_neg (by simp only [attP, outE_iff]; omega)], rfl⟩, (tk1 (sf1 h43))⟩
 refine cl0 Tryz.call192 (couter_no x y z (by omega) (by omega) (by omega)) h12 fun _ h46 => go [] ?_
 exact en (iV 2) [] ⟨_, _, rfl, ⟨by unfold attE; rw [if_neg (by simp only [attP, outE_iff]; omega)], rfl⟩, (tk1 (sf1 h46))⟩

theorem lmade_cl (b : Nat) (v0 : Value) (m : Nat) : HT Tryz.prog 59 [pV b] [Cl b [v0, .map (some m)] 130] (fun v K => v = .bool true ∧ K = [Cl b [v0, .map (some m)] 130]) := by
 refine hiS Tryz.func59 Tryz.ntmps59 fun g w0 R h0 => go [rd 1 6 0 1 1 h0] ?_
 exact en (.bool true) [] ⟨_, _, rfl, ⟨rfl, rfl⟩, h0⟩

theorem lgnew_ht  : HT Tryz.prog 102 [] [] (fun v K => ∃ b : Nat, v = pV b ∧ K = [Lg b []]) := by
 refine hiS Tryz.func102 Tryz.ntmps102 fun g w0 R h0 => go [] ?_
 refine actG ?_
 refine ag_makeMap (t := 128) (d := 1) kv vSv (by kernel_rfl) (by kernel_rfl) rfl h0 ?_
 intro r10 _ h12
 refine nxA <| go [] <| nP 130 [.slice none 0 0, .map (some r10)] h12 (fun r13 w14 h15 => ?_)
 refine go [] ?_
 have h17 : sat g w14 [Ml 3 r10 0, Cl r13 [.slice none 0 0, .map (some r10)] 130, R] := ml_new (tk3 (sf2 (sf1 (sf2 h15))))
 have h18 : sat g w14 [Sl 74 6 none 0 0 (fl eAt []), Ml 3 r10 0, Cl r13 [.slice none 0 0, .map (some r10)] 130, R] := sl_nil 74 6 h17
 have h20 : sat g w14 [Lg r13 [], R] := lg_close (Nat.zero_le _) rfl (tk4 (sf3 (sf2 (sf2 (sf3 h18)))))
 exact en (pV r13) [] ⟨_, _, rfl, ⟨r13, rfl, rfl⟩, h20⟩

theorem lglen_ht (b : Nat) (T : List At) : HT Tryz.prog 23 [pV b] [Lg b T] (fun v K => v = iV (T.length : Int) ∧ K = [Lg b T]) := by
 refine hiS Tryz.func23 Tryz.ntmps23 fun g w0 R h0 => ?_
 obtain ⟨p10, c11, m12, hl13, h14⟩ := lg_open h0
 refine go [] <| cl1 Tryz.call59 (lmade_cl b (.slice p10 T.length c11) m12) h14 fun w15 h16 => go [rd 3 3 0 0 1 h16] ?_
 have h17 : sat g w15 [Lg b T, R] := lg_close hl13 rfl h16
 exact en (iV (((T.length : Nat) : Int))) [] ⟨_, _, rfl, ⟨rfl, rfl⟩, h17⟩

theorem lgadd_ht (b : Nat) (T : List At) (ta x y z wy an : Int) (hz0 : 0 ≤ z) (hz1 : z ≤ 4294967295) (hat : attP (⟨ta, (x, y, z), wy, an⟩ : At)) (hTa : ∀ a ∈ T, a.at_ ≤ ta) (hn : T.length < 10000) : HT Tryz.prog 194 [pV b, .agg #[iV ta, iV x, iV y, uV z, iV wy, iV an]] [Lg b T] (fun v K => v = iV 0 ∧ K = [Lg b (T ++ [(⟨ta, (x, y, z), wy, an⟩ : At)])]) := by
 refine hiS Tryz.func194 Tryz.ntmps194 fun g w0 R h0 => go [] <| nP 74 [iV ta, iV x, iV y, uV z, iV wy, iV an] h0 (fun r10 _ h12 => ?_)
 have h13 := tk3 (sf2 (sf1 (sf2 h12)))
 refine go [] <| cl1 Tryz.call23 (lglen_ht b T) h13 fun _ h15 => ?_
 obtain ⟨p16, c17, m18, hl19, h20⟩ := lg_open h15
 refine go [] <| cl1 Tryz.call59 (lmade_cl b (.slice p16 T.length c17) m18) h20 fun _ h22 => go [rd 6 0 3 0 6 h22] <| cl0 Tryz.call243 ((by have h_ := lchk_ht ta x y z wy an (by omega) (by omega); rw [show attE (⟨ta, (x, y, z), wy, an⟩ : At) = 0 from if_pos hat] at h_; exact h_)) h22 fun _ h24 => ?_
 refine go [] <| dw (fls [0, 1, 2, 3, 4, 5, 6, 7, 8, 9, 10, 11, 12, 13, 14, 15, 16] Tr.nil) h24 fun _ h26 => go [.s 8 1] ?_
 by_cases c27 : ((T.length : Nat) : Int) > 0
 ·
  obtain ⟨b28, hp29⟩ := sl_ptr0 (j := 1) h26 rfl (by omega)
  obtain ⟨kk30, hk31⟩ : ∃ z : Nat, z = T.length - 1 := ⟨_, rfl⟩
  refine go [.v 8 1 (oT (((T.length : Nat) : Int) > 0)), rd 8 4 3 0 1 h26, rd 8 8 0 0 1 h26, .v 8 10 (oIr ((((T.length : Nat) : Int)) - 1)), .s 8 11] <| lw (.pointer (some ⟨b28, kk30 * 6, none⟩)) (fun _ => law_indexSlP (x := (Operand.tmp 47)) (i := (Operand.tmp 49)) (p := p16) (b := b28) (off := 0) (z := (((T.length : Nat) : Int) - 1)) (len := T.length) (cap := c17) (by kernel_rfl) Tryz.underlying41 6 (by kernel_rfl) kk30 (by kernel_rfl) hp29 (by kernel_rfl) (by omega) (by omega) (kk30 * 6) (by omega) _) ?_
  obtain ⟨x32, hx33⟩ : ∃ x, T[T.length - 1]? = some x := ⟨_, List.getElem?_eq_getElem (by omega)⟩
  have hm34 := hTa x32 (List.mem_of_getElem? hx33)
  refine go [.r 8 13 b28 (kk30 * 6) [iV x32.at_] ⟨gv_cell (j := 1) h26 rfl (gv_sl _ _ _) hp29 (fl_get eAt_ok (j := 0) (v := iV x32.at_) hx33 rfl) (kk30 * 6) (by omega), trivial⟩, .v 8 14 (oF (ta < x32.at_)), .v 10 1 (oF (((T.length : Nat) : Int) ≥ 10000))] <| dw (fls [0, 1, 2, 3, 4, 5] (Tr.an 6 (Tr.an 7 (fls [8, 9] (Tr.an 10 Tr.nil))))) h26 fun _ h36 => go [rd 2 4 0 0 1 h36, rd 2 5 3 0 6 h36] <| nG (fun q_ => .slice (some ⟨q_, 0, none⟩) 1 1) 74 [iV ta, iV x, iV y, uV z, iV wy, iV an] h36 (fun r37 _ h39 => ⟨kd [rd 0 4 1 0 1 h39], ?_⟩)
  have h40 := tk6 (sf5 (sf4 (sf4 (sf5 (sf5 (sf5 h39))))))
  refine actG ?_
  refine an_append (d := 15) (sz := 6) (s := (Operand.tmp 12)) (x := (Operand.tmp 14)) (z := .agg #[iV 0, iV 0, iV 0, uV 0, iV 0, iV 0]) (p := p16) (m := T.length) (c := c17) (k := 1) (c2 := 1) (a := ⟨r37, 0, none⟩) (by_ := 48) (by kernel_rfl) (by kernel_rfl) rfl Tryz.underlying41 (by kernel_rfl) rfl (by decide) (by kernel_rfl) (by kernel_rfl) h40 (fl eAt [(⟨ta, (x, y, z), wy, an⟩ : At)]) rfl (fun j u hj => by rw [add_off]; exact sat_cell h40 1 rfl (by rw [Nat.zero_add]; exact hj)) (fl_one eAt_ok _) (by omega) (by omega) (T.length + 1) (by omega) ?_
  intro p41 cap42 w43 h44
  have h45 : sat g w43 [Sl 74 6 p41 (T.length + 1) cap42 (fl eAt (T ++ [(⟨ta, (x, y, z), wy, an⟩ : At)])), Cl r37 [iV ta, iV x, iV y, uV z, iV wy, iV an] 74, Cl b [.slice p16 T.length c17, .map (some m18)] 130, Ml 3 m18 T.length, Cl r10 [iV ta, iV x, iV y, uV z, iV wy, iV an] 74, R] := sat_imp h44 (fun _ hh => by rw [fl_app]; exact hh)
  obtain ⟨hn46, hn47⟩ := sl_le h45
  refine ⟨kd [], nxG ?_⟩
  have h48 := tk6 (sf5 (sf4 (sf4 (sf5 (sf5 (sf5 h45))))))
  refine go [] <| sG [(0, .slice p41 (T.length + 1) cap42)] [.slice p41 (T.length + 1) cap42, .map (some m18)] h48 fun _ h50 => ⟨kd [], ?_⟩
  refine go [] <| dw (fls [0, 1, 2, 3, 4, 5, 6] (Tr.an 7 (Tr.an 8 (fls [9, 11] (Tr.an 10 (Tr.an 12 Tr.nil)))))) h50 fun _ h52 => go [rd 3 3 0 1 1 h52, rd 3 5 4 1 3 h52] <| nG (fun q_ => .slice (some ⟨q_, 0, none⟩) 1 1) 3 [iV (((T.length : Nat) : Int))] h52 (fun r53 _ h55 => ⟨kd [rd 0 5 5 1 3 h55, rd 0 3 1 1 1 h55], ?_⟩)
  obtain ⟨E57, p58, n59, c60, l61, R62, hn63, hg64, hB65, h66⟩ := ml_take (tk7 (sf6 (sf5 (sf5 (sf5 (sf5 (sf6 (sf6 h55)))))))) (x, y, z)
  have h69 := tk9 (sf8 (sf7 (sf8 (sf8 (sf8 (sf8 (sf8 (sf8 (sf8 h66)))))))))
  obtain ⟨hn67, hn68⟩ := sl_le h69
  have h70 := tk9 (sf8 (sf7 (sf8 (sf8 (sf8 (sf8 (sf8 (sf8 (sf8 h69)))))))))
  refine actG ?_
  refine ag_entry (t := 128) (d := 27) (m := (Operand.tmp 21)) (x := (Operand.tmp 23)) (kv := kv) (ve := vSv) (z0 := (none, 0, 0)) (by kernel_rfl) (by kernel_rfl) rfl Tryz.underlying128 kyO (by kernel_rfl) (x, y, z) (by kernel_rfl) (by kernel_rfl) h70 (p58, n59, c60) (hg64.imp id (fun h_ => ⟨h_.1, Prod.ext h_.2.1 (Prod.ext h_.2.2.1 h_.2.2.2)⟩)) ?_
  intro z71 _ h73
  refine ⟨kd [], nxG ?_⟩
  have h74 := tk9 (sf8 (sf7 (sf8 (sf8 (sf8 (sf8 (sf8 (sf8 (sf8 h73)))))))))
  refine go [] ?_
  refine actG ?_
  refine an_append (d := 28) (sz := 1) (s := (Operand.tmp 24)) (x := (Operand.tmp 26)) (z := iV 0) (p := p58) (m := n59) (c := c60) (k := 1) (c2 := 1) (a := ⟨r53, 0, none⟩) (by_ := 8) (by kernel_rfl) (by kernel_rfl) rfl Tryz.underlying37 (by kernel_rfl) rfl (by decide) (by kernel_rfl) (by kernel_rfl) h74 (fl eI [((T.length : Nat) : Int)]) rfl (fun j u hj => by rw [add_off]; exact sat_cell h74 3 rfl (by rw [Nat.zero_add]; exact hj)) (fl_one eI_ok _) (by omega) (by omega) (n59 + 1) (by omega) ?_
  intro p75 cap76 w77 h78
  have h79 : sat g w77 [Sl 3 1 p75 (n59 + 1) cap76 (fl eJ (l61 ++ [((T.length : Nat) : Int)])), Ge kv vSv m18 (gset E57 (x, y, z) (p58, n59, c60)) (x, y, z) z71, Rws 3 R62, Cl r53 [iV (((T.length : Nat) : Int))] 3, Cl b [.slice p41 (T.length + 1) cap42, .map (some m18)] 130, Sl 74 6 p41 (T.length + 1) cap42 (fl eAt (T ++ [(⟨ta, (x, y, z), wy, an⟩ : At)])), Cl r37 [iV ta, iV x, iV y, uV z, iV wy, iV an] 74, Cl r10 [iV ta, iV x, iV y, uV z, iV wy, iV an] 74, R] := sat_imp h78 (fun _ hh => by rw [fl_app]; exact hh)
  obtain ⟨hn80, hn81⟩ := sl_le h79
  refine ⟨kd [], nxG ?_⟩
  have h82 := tk9 (sf8 (sf7 (sf8 (sf8 (sf8 (sf8 (sf8 (sf8 (sf8 h79)))))))))
  refine actG ?_
  refine ag_entryStore (t := 128) (m := (Operand.tmp 21)) (x := (Operand.tmp 29)) (y := (Operand.tmp 28)) (kv := kv) (ve := vSv) (by kernel_rfl) (by kernel_rfl) (p75, n59 + 1, cap76) (by kernel_rfl) (by kernel_rfl) (by kernel_rfl) h82 (gset E57 (x, y, z) (p75, n59 + 1, cap76)) (gset_gset _ _ _ _) ?_
  intro w83 h84
  have h85 : sat g w83 [Ml 3 m18 (T.length + 1), Cl r53 [iV (((T.length : Nat) : Int))] 3, Cl b [.slice p41 (T.length + 1) cap42, .map (some m18)] 130, Sl 74 6 p41 (T.length + 1) cap42 (fl eAt (T ++ [(⟨ta, (x, y, z), wy, an⟩ : At)])), Cl r37 [iV ta, iV x, iV y, uV z, iV wy, iV an] 74, Cl r10 [iV ta, iV x, iV y, uV z, iV wy, iV an] 74, R] := hB65 _ _ _ _ _ _ (l61 ++ [((T.length : Nat) : Int)]) (T.length + 1) (by omega) (by omega) h84
  refine ⟨kd [], nxN ?_⟩
  refine go [] ?_
  have h87 : sat g w83 [Lg b (T ++ [(⟨ta, (x, y, z), wy, an⟩ : At)]), Cl r53 [iV (((T.length : Nat) : Int))] 3, Cl r37 [iV ta, iV x, iV y, uV z, iV wy, iV an] 74, Cl r10 [iV ta, iV x, iV y, uV z, iV wy, iV an] 74, R] := lg_close (by rw [List.length_append]; exact hn) (by rw [List.length_append]; rfl) (tk7 (sf6 (sf6 (sf4 (sf4 (sf6 (sf6 (sf6 h85))))))))
  exact en (iV 0) [] ⟨_, _, rfl, ⟨rfl, rfl⟩, (tk2 (sf1 (sf4 h87)))⟩
 refine go [.v 8 1 (oF (((T.length : Nat) : Int) > 0)), .v 10 1 (oF (((T.length : Nat) : Int) ≥ 10000))] <| dw (fls [0, 1, 2, 3, 4, 5] (Tr.an 6 (Tr.an 7 (fls [8, 9] (Tr.an 10 Tr.nil))))) h26 fun _ h90 => go [rd 2 4 0 0 1 h90, rd 2 5 3 0 6 h90] <| nG (fun q_ => .slice (some ⟨q_, 0, none⟩) 1 1) 74 [iV ta, iV x, iV y, uV z, iV wy, iV an] h90 (fun r91 _ h93 => ⟨kd [rd 0 4 1 0 1 h93], ?_⟩)
 have h94 := tk6 (sf5 (sf4 (sf4 (sf5 (sf5 (sf5 h93))))))
 refine actG ?_
 refine an_append (d := 15) (sz := 6) (s := (Operand.tmp 12)) (x := (Operand.tmp 14)) (z := .agg #[iV 0, iV 0, iV 0, uV 0, iV 0, iV 0]) (p := p16) (m := T.length) (c := c17) (k := 1) (c2 := 1) (a := ⟨r91, 0, none⟩) (by_ := 48) (by kernel_rfl) (by kernel_rfl) rfl Tryz.underlying41 (by kernel_rfl) rfl (by decide) (by kernel_rfl) (by kernel_rfl) h94 (fl eAt [(⟨ta, (x, y, z), wy, an⟩ : At)]) rfl (fun j u hj => by rw [add_off]; exact sat_cell h94 1 rfl (by rw [Nat.zero_add]; exact hj)) (fl_one eAt_ok _) (by omega) (by omega) (T.length + 1) (by omega) ?_
 intro p95 cap96 w97 h98
 have h99 : sat g w97 [Sl 74 6 p95 (T.length + 1) cap96 (fl eAt (T ++ [(⟨ta, (x, y, z), wy, an⟩ : At)])), Cl r91 [iV ta, iV x, iV y, uV z, iV wy, iV an] 74, Cl b [.slice p16 T.length c17, .map (some m18)] 130, Ml 3 m18 T.length, Cl r10 [iV ta, iV x, iV y, uV z, iV wy, iV an] 74, R] := sat_imp h98 (fun _ hh => by rw [fl_app]; exact hh)
 obtain ⟨hn100, hn101⟩ := sl_le h99
 refine ⟨kd [], nxG ?_⟩
 have h102 := tk6 (sf5 (sf4 (sf4 (sf5 (sf5 (sf5 h99))))))
 refine go [] <| sG [(0, .slice p95 (T.length + 1) cap96)] [.slice p95 (T.length + 1) cap96, .map (some m18)] h102 fun _ h104 => ⟨kd [], ?_⟩
 refine go [] <| dw (fls [0, 1, 2, 3, 4, 5, 6] (Tr.an 7 (Tr.an 8 (fls [9, 11] (Tr.an 10 (Tr.an 12 Tr.nil)))))) h104 fun _ h106 => go [rd 3 3 0 1 1 h106, rd 3 5 4 1 3 h106] <| nG (fun q_ => .slice (some ⟨q_, 0, none⟩) 1 1) 3 [iV (((T.length : Nat) : Int))] h106 (fun r107 _ h109 => ⟨kd [rd 0 5 5 1 3 h109, rd 0 3 1 1 1 h109], ?_⟩)
 obtain ⟨E111, p112, n113, c114, l115, R116, hn117, hg118, hB119, h120⟩ := ml_take (tk7 (sf6 (sf5 (sf5 (sf5 (sf5 (sf6 (sf6 h109)))))))) (x, y, z)
 have h123 := tk9 (sf8 (sf7 (sf8 (sf8 (sf8 (sf8 (sf8 (sf8 (sf8 h120)))))))))
 obtain ⟨hn121, hn122⟩ := sl_le h123
 have h124 := tk9 (sf8 (sf7 (sf8 (sf8 (sf8 (sf8 (sf8 (sf8 (sf8 h123)))))))))
 refine actG ?_
 refine ag_entry (t := 128) (d := 27) (m := (Operand.tmp 21)) (x := (Operand.tmp 23)) (kv := kv) (ve := vSv) (z0 := (none, 0, 0)) (by kernel_rfl) (by kernel_rfl) rfl Tryz.underlying128 kyO (by kernel_rfl) (x, y, z) (by kernel_rfl) (by kernel_rfl) h124 (p112, n113, c114) (hg118.imp id (fun h_ => ⟨h_.1, Prod.ext h_.2.1 (Prod.ext h_.2.2.1 h_.2.2.2)⟩)) ?_
 intro z125 _ h127
 refine ⟨kd [], nxG ?_⟩
 have h128 := tk9 (sf8 (sf7 (sf8 (sf8 (sf8 (sf8 (sf8 (sf8 (sf8 h127)))))))))
 refine go [] ?_
 refine actG ?_
 refine an_append (d := 28) (sz := 1) (s := (Operand.tmp 24)) (x := (Operand.tmp 26)) (z := iV 0) (p := p112) (m := n113) (c := c114) (k := 1) (c2 := 1) (a := ⟨r107, 0, none⟩) (by_ := 8) (by kernel_rfl) (by kernel_rfl) rfl Tryz.underlying37 (by kernel_rfl) rfl (by decide) (by kernel_rfl) (by kernel_rfl) h128 (fl eI [((T.length : Nat) : Int)]) rfl (fun j u hj => by rw [add_off]; exact sat_cell h128 3 rfl (by rw [Nat.zero_add]; exact hj)) (fl_one eI_ok _) (by omega) (by omega) (n113 + 1) (by omega) ?_
 intro p129 cap130 w131 h132
 have h133 : sat g w131 [Sl 3 1 p129 (n113 + 1) cap130 (fl eJ (l115 ++ [((T.length : Nat) : Int)])), Ge kv vSv m18 (gset E111 (x, y, z) (p112, n113, c114)) (x, y, z) z125, Rws 3 R116, Cl r107 [iV (((T.length : Nat) : Int))] 3, Cl b [.slice p95 (T.length + 1) cap96, .map (some m18)] 130, Sl 74 6 p95 (T.length + 1) cap96 (fl eAt (T ++ [(⟨ta, (x, y, z), wy, an⟩ : At)])), Cl r91 [iV ta, iV x, iV y, uV z, iV wy, iV an] 74, Cl r10 [iV ta, iV x, iV y, uV z, iV wy, iV an] 74, R] := sat_imp h132 (fun _ hh => by rw [fl_app]; exact hh)
 obtain ⟨hn134, hn135⟩ := sl_le h133
 refine ⟨kd [], nxG ?_⟩
 have h136 := tk9 (sf8 (sf7 (sf8 (sf8 (sf8 (sf8 (sf8 (sf8 (sf8 h133)))))))))
 refine actG ?_
 refine ag_entryStore (t := 128) (m := (Operand.tmp 21)) (x := (Operand.tmp 29)) (y := (Operand.tmp 28)) (kv := kv) (ve := vSv) (by kernel_rfl) (by kernel_rfl) (p129, n113 + 1, cap130) (by kernel_rfl) (by kernel_rfl) (by kernel_rfl) h136 (gset E111 (x, y, z) (p129, n113 + 1, cap130)) (gset_gset _ _ _ _) ?_
 intro w137 h138
 have h139 : sat g w137 [Ml 3 m18 (T.length + 1), Cl r107 [iV (((T.length : Nat) : Int))] 3, Cl b [.slice p95 (T.length + 1) cap96, .map (some m18)] 130, Sl 74 6 p95 (T.length + 1) cap96 (fl eAt (T ++ [(⟨ta, (x, y, z), wy, an⟩ : At)])), Cl r91 [iV ta, iV x, iV y, uV z, iV wy, iV an] 74, Cl r10 [iV ta, iV x, iV y, uV z, iV wy, iV an] 74, R] := hB119 _ _ _ _ _ _ (l115 ++ [((T.length : Nat) : Int)]) (T.length + 1) (by omega) (by omega) h138
 refine ⟨kd [], nxN ?_⟩
 refine go [] ?_
 have h141 : sat g w137 [Lg b (T ++ [(⟨ta, (x, y, z), wy, an⟩ : At)]), Cl r107 [iV (((T.length : Nat) : Int))] 3, Cl r91 [iV ta, iV x, iV y, uV z, iV wy, iV an] 74, Cl r10 [iV ta, iV x, iV y, uV z, iV wy, iV an] 74, R] := lg_close (by rw [List.length_append]; exact hn) (by rw [List.length_append]; rfl) (tk7 (sf6 (sf6 (sf4 (sf4 (sf6 (sf6 (sf6 h139))))))))
 exact en (iV 0) [] ⟨_, _, rfl, ⟨rfl, rfl⟩, (tk2 (sf1 (sf4 h141)))⟩

end Go.Proofs.YtehlamblpekmkaaGreatDoor

/- Walks, printed by my generator P:../out/o7.py. -/
namespace Go.Proofs.YtehlamblpekmkaaGreatDoor
set_option maxHeartbeats 4000000
theorem aclone_nil (c : Nat) (X : Assn) : HT Tryz.prog 60 [.slice none 0 c] [X] (fun v K => ∃ p c, v = .slice p 0 c ∧ K = [Sl 74 6 p 0 c (fl eAt []), X]) := by
 refine hiS Tryz.func60 Tryz.ntmps60 fun g w0 R h0 => go [] ?_
 have h10 : sat g w0 [Sl 74 6 none 0 0 (fl eAt []), X, R] := sl_nil 74 6 h0
 exact en (.slice none 0 0) [] ⟨_, _, rfl, ⟨none, 0, rfl, rfl⟩, h10⟩

theorem aclone_none (n c : Nat) (L : List At) (X : Assn) (hX : Gv X none n (fl eAt L)) (hL : L.length = n) : HT Tryz.prog 60 [Value.slice none n c] [X] (fun v K => ∃ p c, v = Value.slice p n c ∧ K = [Sl 74 6 p n c (fl eAt L), X]) := by
  have hn0 : n = 0 ∨ 0 < n := by omega
  rcases hn0 with hn0 | hn0
  · have hl0 : L = [] := List.eq_nil_of_length_eq_zero (by omega)
    subst hl0
    subst hn0
    exact aclone_nil c X
  · intro g w F hs
    obtain ⟨b, off, h1⟩ := gv_ptr (j := 0) hs rfl hX hn0
    cases h1

theorem aclone_some (a : Addr) (p : Option Addr) (hp : p = some a) (n c : Nat) (L : List At) (X : Assn) (hX : Gv X p n (fl eAt L)) (hL : L.length = n) (hn : n ≤ 1099511627776) : HT Tryz.prog 60 [.slice p n c] [X] (fun v K => ∃ p c, v = .slice p n c ∧ K = [Sl 74 6 p n c (fl eAt L), X]) := by
 refine hiS Tryz.func60 Tryz.ntmps60 fun g w0 R h0 => go [.s 1 1] <| lwP (.bool false) (law_sliceSome (x := (Operand.tmp 3)) (y := (Operand.const (.slice none 0 0))) (m := n) (c := c) (by kernel_rfl) Tryz.underlying41 (by kernel_rfl) hp (by kernel_rfl) _) <| go [] <| nG (fun q_ => .slice (some ⟨q_, 0, none⟩) 0 0) 74 [] h0 (fun r10 w11 h12 => ⟨kd [], ?_⟩)
 have h13 : sat g w11 [Sl 74 6 (some ⟨r10, 0, none⟩) 0 0 (fl eAt []), X, R] := sl_of_cl h12 rfl (by omega)
 refine go [] ?_
 refine actG ?_
 refine an_append_gv (d := 7) (sz := 6) (s := (Operand.tmp 5)) (x := (Operand.tmp 6)) (z := .agg #[iV 0, iV 0, iV 0, uV 0, iV 0, iV 0]) (p := (some ⟨r10, 0, none⟩)) (p2 := p) (m := 0) (c := 0) (k := n) (c2 := c) (by_ := 48) (by kernel_rfl) (by kernel_rfl) rfl Tryz.underlying41 (by kernel_rfl) rfl (by decide) (by kernel_rfl) (by kernel_rfl) h13 1 rfl (fl eAt L) hX (by rw [fl_len eAt_ok, hL]) (fl_one eAt_ok _) (by omega) (by omega) n (by omega) ?_
 intro p14 cap15 w16 h17
 have h18 : sat g w16 [Sl 74 6 p14 n cap15 (fl eAt L), X, R] := sat_imp h17 (fun _ hh => by exact hh)
 obtain ⟨hn19, hn20⟩ := sl_le h18
 refine nxA <| go [] ?_
 exact en (.slice p14 n cap15) [] ⟨_, _, rfl, ⟨p14, cap15, rfl, rfl⟩, h18⟩

theorem aclone_ht (p : Option Addr) (n c : Nat) (L : List At) (X : Assn) (hX : Gv X p n (fl eAt L)) (hL : L.length = n) (hn : n ≤ 1099511627776) : HT Tryz.prog 60 [Value.slice p n c] [X] (fun v K => ∃ p c, v = Value.slice p n c ∧ K = [Sl 74 6 p n c (fl eAt L), X]) := by
  cases p with
  | none => exact aclone_none n c L X hX hL
  | some a => exact aclone_some a _ rfl n c L X hX hL hn

theorem lgall_ht (b : Nat) (T : List At) : HT Tryz.prog 21 [pV b] [Lg b T] (fun v K => ∃ p c, v = .slice p T.length c ∧ K = [Sl 74 6 p T.length c (fl eAt T), Lg b T]) := by
 refine hiS Tryz.func21 Tryz.ntmps21 fun g w0 R h0 => ?_
 obtain ⟨p10, c11, m12, hl13, h14⟩ := lg_open h0
 refine go [] <| cl1 Tryz.call59 (lmade_cl b (.slice p10 T.length c11) m12) h14 fun _ h16 => ?_
 have h19 := tk4 (sf3 (sf2 (sf3 (sf3 h16))))
 refine go [rd 3 3 0 0 1 h16] <| cP Tryz.call60 (aclone_ht p10 T.length c11 T (Sl 74 6 p10 T.length c11 (fl eAt T)) (gv_sl _ _ _) rfl (by omega)) h19 ?_
 rintro v K w20 (⟨p17, c18, rfl, rfl⟩) h21
 have h22 := ap2 h21
 refine go [] ?_
 have h24 : sat g w20 [Lg b T, Sl 74 6 p17 T.length c18 (fl eAt T), R] := lg_close hl13 rfl (tk5 (sf4 (sf3 (sf4 (sf1 (sf4 h22))))))
 exact en (.slice p17 T.length c18) [] ⟨_, _, rfl, ⟨p17, c18, rfl, rfl⟩, (tk3 (sf2 (sf1 (sf2 h24))))⟩

theorem lgcopy_ht (b : Nat) (T : List At) : HT Tryz.prog 58 [pV b] [Lg b T] (fun v K => ∃ b2 : Nat, v = pV b2 ∧ K = [Lg b T, Lg b2 T]) := by
 refine hiS Tryz.func58 Tryz.ntmps58 fun g w0 R h0 => ?_
 obtain ⟨p10, c11, m12, hl13, h14⟩ := lg_open h0
 refine go [] <| cl1 Tryz.call59 (lmade_cl b (.slice p10 T.length c11) m12) h14 fun _ h16 => go [] <| cP Tryz.call102 (lgnew_ht) h16 ?_
 rintro v K _ (⟨b17, rfl, rfl⟩) h19
 have h20 := ap1 h19
 have h23 := tk5 (sf4 (sf3 (sf3 (sf4 (sf4 h20)))))
 refine go [rd 4 4 1 0 1 h20] <| cP Tryz.call60 (aclone_ht p10 T.length c11 T (Sl 74 6 p10 T.length c11 (fl eAt T)) (gv_sl _ _ _) rfl (by omega)) h23 ?_
 rintro v K _ (⟨p21, c22, rfl, rfl⟩) h25
 obtain ⟨p28, c29, m30, hl31, h32⟩ := lg_open (tk6 (sf5 (sf4 (sf4 (sf5 (sf5 (sf5 (ap2 h25))))))))
 refine go [] <| sP [(0, .slice p21 T.length c22)] [.slice p21 T.length c22, .map (some m30)] h32 fun _ h34 => ?_
 obtain ⟨R_, hR_, h36⟩ := ml_open (tk8 (sf7 (sf6 (sf6 (sf6 (sf6 (sf6 (sf6 (sf7 h34)))))))))
 refine go [rd 5 3 5 1 1 h34] ?_
 refine actG ?_
 refine ag_range (t := 128) (d := 22) (x := (Operand.tmp 21)) (by kernel_rfl) (by kernel_rfl) rfl Tryz.underlying128 (by kernel_rfl) h36 ?_
 intro r37 w38 h39
 refine nxA <| go [] ?_
 have h41 : sat g w38 [Ml 3 m30 T.length, It kv vSv m12 r37 (rwE R_) (rwE R_) none, Rws 3 R_, Cl b17 [.slice p21 T.length c22, .map (some m30)] 130, Sl 74 6 p28 (([].length)) c29 (fl eAt []), Sl 74 6 p21 T.length c22 (fl eAt T), Sl 74 6 p10 T.length c11 (fl eAt T), Cl b [.slice p10 T.length c11, .map (some m12)] 130, R] := ml_more (Nat.zero_le _) (tk9 (sf8 (sf7 (sf7 (sf7 (sf7 (sf8 (sf8 (sf8 (sf8 h39))))))))))
 refine lpS (fun mz_ a w => ∃ S : List (Ky × Sv), ∃ cur : Option (Ky × Sv), ∃ lr : Fr, mz_ = S.length ∧ (∀ q ∈ S, q ∈ rwE R_) ∧ a = mk 36 (([(3, pV b17), (22, pV r37)] : Fr) ++ lr) ∧ sat g w [It kv vSv m12 r37 (rwE R_) S cur, Rws 3 R_, Cl b [.slice p10 T.length c11, .map (some m12)] 130, Sl 74 6 p10 T.length c11 (fl eAt T), Cl b17 [.slice p21 T.length c22, .map (some m30)] 130, Sl 74 6 p21 T.length c22 (fl eAt T), Ml 3 m30 T.length, R]) ((rwE R_).length) ⟨(rwE R_), none, _, rfl, (fun _ hq_ => hq_), (lvF [.k 3 (pV b17), .k 22 (pV r37)]), (tk8 (tk9 (sf8 (sf8 (sf8 (sf7 (sf6 (sf6 (sf2 (sf8 (sf4 h41)))))))))))⟩ ?_
 rintro m45 a46 w47 ⟨S, cur, lr44, rfl, hsub, rfl, h48⟩
 refine ga <| go [] ?_
 refine actG ?_
 refine ag_next (d := 23) (x := (Operand.tmp 22)) (by kernel_rfl) (by kernel_rfl) rfl (by kernel_rfl) h48 ?_ ?_
 ·
  intro hS49 w50 h51
  refine nxA <| go [] <| up <| go [] ?_
  have h57 : sat g w50 [Ml 3 m12 T.length, Cl b [.slice p10 T.length c11, .map (some m12)] 130, Sl 74 6 p10 T.length c11 (fl eAt T), Cl b17 [.slice p21 T.length c22, .map (some m30)] 130, Sl 74 6 p21 T.length c22 (fl eAt T), Ml 3 m30 T.length, R] := ml_close hR_ (it_end h51)
  have h59 : sat g w50 [Lg b T, Cl b17 [.slice p21 T.length c22, .map (some m30)] 130, Sl 74 6 p21 T.length c22 (fl eAt T), Ml 3 m30 T.length, R] := lg_close hl13 rfl (tk7 (sf6 (sf6 (sf4 (sf6 (sf6 (sf6 (sf6 h57))))))))
  have h61 : sat g w50 [Lg b17 T, Lg b T, R] := lg_close hl13 rfl (tk5 (sf4 (sf4 (sf4 (sf1 (sf4 h59))))))
  exact en (pV b17) [] ⟨_, _, rfl, ⟨b17, rfl, rfl⟩, (tk3 (sf2 (sf1 (sf2 h61))))⟩
 intro ix52 q53 hq54 _ h56
 have hel63 := erase_len hq54
 refine nxA <| go [] ?_
 refine actG ?_
 refine act_law (d := 25) (.tuple #[.agg #[iV q53.1.1, iV q53.1.2.1, uV q53.1.2.2], .slice q53.2.1 q53.2.2.1 q53.2.2.2]) (by kernel_rfl) rfl (law_entry (x := (Operand.tmp 22)) (by kernel_rfl) (by kernel_rfl) h56 (.tuple #[.agg #[iV q53.1.1, iV q53.1.2.1, uV q53.1.2.2], .slice q53.2.1 q53.2.2.1 q53.2.2.2]) rfl) ?_
 refine nxA <| go [] <| nP 72 [iV 0, iV 0, uV 0] h56 (fun r64 _ h66 => ?_)
 refine sP [(0, iV q53.1.1), (1, iV q53.1.2.1), (2, uV q53.1.2.2)] [iV q53.1.1, iV q53.1.2.1, uV q53.1.2.2] h66 fun _ h68 => go [] <| dw (fls [0, 1, 2, 3, 4, 5] (Tr.an 6 (Tr.an 7 Tr.nil))) h68 fun _ h70 => ?_
 have hm71 := hsub q53 (List.mem_of_getElem? hq54); have hm71b := rwE_le hR_ hm71
 obtain ⟨l73, R74, hb75, h76⟩ := rows_at (tk9 (sf8 (sf7 (sf7 (sf8 (sf8 (sf8 (sf8 (sf8 (sf8 h70)))))))))) hm71
 have hl79 := fl_n eJ_ok (by decide) h76
 refine go [rd 8 3 5 1 1 h70, rd 8 4 0 0 3 h70] <| cG Tryz.call126 (clone_ht q53.2.1 q53.2.2.1 q53.2.2.2 l73 (Sl 3 1 q53.2.1 q53.2.2.1 q53.2.2.2 (fl eJ l73)) (gv_sl _ _ _) hl79 (by omega)) h76 ?_
 rintro v K w80 (⟨p77, c78, rfl, rfl⟩) h81
 have h84 : sat g w80 [Rws 3 R_, Sl 3 1 p77 q53.2.2.1 c78 (fl eJ l73), Cl r64 [iV q53.1.1, iV q53.1.2.1, uV q53.1.2.2] 72, It kv vSv m12 r37 (rwE R_) (S.eraseIdx ix52) (some q53), Cl b [.slice p10 T.length c11, .map (some m12)] 130, Sl 74 6 p10 T.length c11 (fl eAt T), Cl b17 [.slice p21 T.length c22, .map (some m30)] 130, Sl 74 6 p21 T.length c22 (fl eAt T), Ml 3 m30 T.length, R] := hb75 _ _ _ (tk11 (sf10 (sf10 (sf8 (sf10 (sf10 (sf10 (sf10 (sf10 (sf10 (sf10 (sf10 (ap2 h81)))))))))))))
 refine ⟨kd [rd 0 4 2 0 3 h84, rd 0 3 6 1 1 h84], ?_⟩
 obtain ⟨E86, p87, n88, c89, l90, R91, hn92, hg93, hB94, h95⟩ := ml_take (tk10 (sf9 (sf8 (sf8 (sf8 (sf8 (sf8 (sf8 (sf8 (sf8 (sf9 h84))))))))))) (q53.1.1, q53.1.2.1, q53.1.2.2)
 have h98 := tk12 (sf11 (sf10 (sf11 (sf11 (sf11 (sf11 (sf11 (sf11 (sf11 (sf11 (sf11 (sf11 h95))))))))))))
 obtain ⟨hn96, hn97⟩ := sl_le h98
 have h99 := tk12 (sf11 (sf10 (sf11 (sf11 (sf11 (sf11 (sf11 (sf11 (sf11 (sf11 (sf11 (sf11 h98))))))))))))
 refine actG ?_
 refine ag_mapUpdate (t := 128) (m := (Operand.tmp 31)) (x := (Operand.tmp 32)) (y := (Operand.tmp 34)) (kv := kv) (ve := vSv) (by kernel_rfl) (by kernel_rfl) Tryz.underlying128 kyO (q53.1.1, q53.1.2.1, q53.1.2.2) (p77, q53.2.2.1, c78) (by kernel_rfl) (by kernel_rfl) (by kernel_rfl) h99 (gset E86 (q53.1.1, q53.1.2.1, q53.1.2.2) (p77, q53.2.2.1, c78)) rfl ?_
 intro w100 h101
 have h103 : sat g w100 [Ml 3 m30 T.length, Sl 3 1 p87 n88 c89 (fl eJ l90), Rws 3 R_, Cl r64 [iV q53.1.1, iV q53.1.2.1, uV q53.1.2.2] 72, It kv vSv m12 r37 (rwE R_) (S.eraseIdx ix52) (some q53), Cl b [.slice p10 T.length c11, .map (some m12)] 130, Sl 74 6 p10 T.length c11 (fl eAt T), Cl b17 [.slice p21 T.length c22, .map (some m30)] 130, Sl 74 6 p21 T.length c22 (fl eAt T), R] := hB94 _ _ _ _ _ _ l73 T.length (by omega) (by omega) (tk12 (sf11 (sf11 (sf10 (sf9 (sf10 (sf11 (sf11 (sf11 (sf11 (sf11 (sf11 (sf11 h101)))))))))))))
 refine ⟨kd [], nxN ?_⟩
 refine go [] ?_
 refine enL ?_
 have h105 := tk8 (tk10 (sf9 (sf8 (sf9 (sf9 (sf9 (sf9 (sf3 (sf9 (sf2 (sf3 h103)))))))))))
 change ∃ n', n' < _ ∧ _
 refine ⟨(S.eraseIdx ix52).length, by omega, (S.eraseIdx ix52), (some q53), _, rfl, (fun q_ hq_ => hsub q_ (List.mem_of_mem_eraseIdx hq_)), (lvF [.k 3 (pV b17), .k 22 (pV r37)]), h105⟩

end Go.Proofs.YtehlamblpekmkaaGreatDoor

/- Walks, printed by my generator P:../out/o8.py. -/
namespace Go.Proofs.YtehlamblpekmkaaGreatDoor
set_option maxHeartbeats 4000000
theorem seq72_eql_t {n : Nat} {l : Fr} {o : Oper} {x y : Operand} (a0 : Int) (a1 : Int) (a2 : Int) (c0 : Int) (c1 : Int) (c2 : Int) (ho : o.op = .binOp .eql 72 x y 72) (hx : fe n l x = .agg #[.int .i64 a0, .int .i64 a1, .int .u32 a2]) (hy : fe n l y = .agg #[.int .i64 c0, .int .i64 c1, .int .u32 c2]) (h : a0 = c0 ∧ a1 = c1 ∧ a2 = c2) (w : World) : (execOp (fe n l) o).run Tryz.prog w = .ok (.value (.bool true)) w := by
  obtain ⟨rfl, rfl, rfl⟩ := h
  simp [execOp, ho, hx, hy, go_sem]
theorem seq72_eql_f {n : Nat} {l : Fr} {o : Oper} {x y : Operand} (a0 : Int) (a1 : Int) (a2 : Int) (c0 : Int) (c1 : Int) (c2 : Int) (ho : o.op = .binOp .eql 72 x y 72) (hx : fe n l x = .agg #[.int .i64 a0, .int .i64 a1, .int .u32 a2]) (hy : fe n l y = .agg #[.int .i64 c0, .int .i64 c1, .int .u32 c2]) (h : ¬ (a0 = c0 ∧ a1 = c1 ∧ a2 = c2)) (w : World) : (execOp (fe n l) o).run Tryz.prog w = .ok (.value (.bool false)) w := by
  by_cases h0 : a0 = c0
  · skip
    by_cases h1 : a1 = c1
    · skip
      by_cases h2 : a2 = c2
      · exact absurd ⟨h0, h1, h2⟩ h
      · simp [execOp, ho, hx, hy, go_sem, h0, h1, h2]
    · simp [execOp, ho, hx, hy, go_sem, h0, h1]
  · simp [execOp, ho, hx, hy, go_sem, h0]
theorem oix_ht (p : Option Addr) (n c : Nat) (L : List Ky) (X : Assn) (hX : Gv X p n (fl eO L)) (hL : L.length = n) (hn : n ≤ 1000000) (x y z : Int) : HT Tryz.prog 276 [.slice p n c, .agg #[iV x, iV y, uV z]] [X] (fun v K => ∃ r : Int, v = iV r ∧ -1 ≤ r ∧ (0 ≤ r ↔ (x, y, z) ∈ L) ∧ K = [X]) := by
 refine hiS Tryz.func276 Tryz.ntmps276 fun g w0 R h0 => go [] <| nP 72 [iV x, iV y, uV z] h0 (fun r10 _ h12 => ?_)
 refine go [] ?_
 refine lpS (fun mz_ a w => ∃ i : Nat, ∃ lr : Fr, mz_ = n - i ∧ (i ≤ n) ∧ (∀ b ∈ L.take i, b ≠ (x, y, z)) ∧ a = mk 19 (([(0, .slice p n c), (3, pV r10), (7, iV (n : Int)), (8, iV (i : Int))] : Fr) ++ lr) ∧ sat g w [Cl r10 [iV x, iV y, uV z] 72, X, R]) (n - 0) ⟨0, _, rfl, (Nat.zero_le _), (fun _ hb_ => nomatch hb_), (lvF [.k 0 (.slice p n c), .k 3 (pV r10), .k 7 (iV (n : Int)), .o 8 (oJ .i64 0 (0 : Int))]), h12⟩ ?_
 rintro m14 a15 w16 ⟨i, lr13, rfl, hi, hno, rfl, h17⟩
 refine ga <| go [.s 2 0] ?_
 by_cases c18 : (i : Int) < (n : Int)
 ·
  refine go [.v 2 0 (oT ((i : Int) < (n : Int)))] <| dw (fls [0, 1, 2, 3, 4, 5] Tr.nil) h17 fun _ h20 => ?_
  obtain ⟨b21, off23, hp22⟩ := gv_ptr (j := 1) h20 rfl hX (by omega)
  refine go [rd 4 0 0 0 3 h20, .s 4 3] <| lw (.pointer (some ⟨b21, off23 + i * 3, none⟩)) (fun _ => law_indexSlP (x := (Operand.tmp 12)) (i := (Operand.tmp 13)) (p := p) (b := b21) (off := off23) (z := (i : Int)) (len := n) (cap := c) (by kernel_rfl) Tryz.underlying314 3 (by kernel_rfl) i (by kernel_rfl) hp22 (by kernel_rfl) (by omega) (by omega) (off23 + i * 3) (by omega) _) ?_
  obtain ⟨x24, hx25⟩ : ∃ x, L[i]? = some x := ⟨_, List.getElem?_eq_getElem (by rw [hL]; omega)⟩
  refine go [.r 4 4 b21 (off23 + i * 3) [iV x24.1, iV x24.2.1, uV x24.2.2] ⟨gv_cell (j := 1) h20 rfl hX hp22 (fl_get eO_ok (j := 0) (v := iV x24.1) hx25 rfl) (off23 + i * 3) (by omega), gv_cell (j := 1) h20 rfl hX hp22 (fl_get eO_ok (j := 1) (v := iV x24.2.1) hx25 rfl) (off23 + i * 3 + 1) (by omega), gv_cell (j := 1) h20 rfl hX hp22 (fl_get eO_ok (j := 2) (v := uV x24.2.2) hx25 rfl) (off23 + i * 3 + 2) (by omega), trivial⟩, .s 4 5] ?_
  by_cases c26 : x = x24.1
  ·
   by_cases c27 : y = x24.2.1
   ·
    by_cases c28 : z = x24.2.2
    ·
     refine lw (.bool true) (fun _ => seq72_eql_t (x := (Operand.tmp 11)) (y := (Operand.tmp 15)) x y z x24.1 x24.2.1 x24.2.2 (by kernel_rfl) (by kernel_rfl) (by kernel_rfl) ⟨(by omega), (by omega), (by omega)⟩ _) <| go [] <| up <| go [] ?_
     exact en (iV (i : Int)) [] ⟨_, _, rfl, ⟨(i : Int), rfl, (by omega), ⟨fun _ => by have h_ := List.mem_of_getElem? hx25; rwa [ky_eq (a := x24) (x := x) (y := y) (z := z) (by omega)] at h_, fun _ => (by omega)⟩, rfl⟩, (tk2 (sf1 (sf2 (tk3 (sf2 (sf1 (sf2 h20)))))))⟩
    refine lw (.bool false) (fun _ => seq72_eql_f (x := (Operand.tmp 11)) (y := (Operand.tmp 15)) x y z x24.1 x24.2.1 x24.2.2 (by kernel_rfl) (by kernel_rfl) (by kernel_rfl) (by omega) _) <| go [.v 6 0 (oIr ((i : Int) + 1))] ?_
    refine enL ?_
    change ∃ n', n' < _ ∧ _
    refine ⟨(n - (i + 1)), by omega, (i + 1), _, rfl, (by omega), (tk_ne hno hx25 (ky_ne (by omega))), (lvF [.k 0 (.slice p n c), .k 3 (pV r10), .k 7 (iV (n : Int)), .o 8 (oJ .i64 ((i : Int) + 1) ((((i + 1) : Nat) : Int)))]), h20⟩
   refine lw (.bool false) (fun _ => seq72_eql_f (x := (Operand.tmp 11)) (y := (Operand.tmp 15)) x y z x24.1 x24.2.1 x24.2.2 (by kernel_rfl) (by kernel_rfl) (by kernel_rfl) (by omega) _) <| go [.v 6 0 (oIr ((i : Int) + 1))] ?_
   refine enL ?_
   change ∃ n', n' < _ ∧ _
   refine ⟨(n - (i + 1)), by omega, (i + 1), _, rfl, (by omega), (tk_ne hno hx25 (ky_ne (by omega))), (lvF [.k 0 (.slice p n c), .k 3 (pV r10), .k 7 (iV (n : Int)), .o 8 (oJ .i64 ((i : Int) + 1) ((((i + 1) : Nat) : Int)))]), h20⟩
  refine lw (.bool false) (fun _ => seq72_eql_f (x := (Operand.tmp 11)) (y := (Operand.tmp 15)) x y z x24.1 x24.2.1 x24.2.2 (by kernel_rfl) (by kernel_rfl) (by kernel_rfl) (by omega) _) <| go [.v 6 0 (oIr ((i : Int) + 1))] ?_
  refine enL ?_
  change ∃ n', n' < _ ∧ _
  refine ⟨(n - (i + 1)), by omega, (i + 1), _, rfl, (by omega), (tk_ne hno hx25 (ky_ne (by omega))), (lvF [.k 0 (.slice p n c), .k 3 (pV r10), .k 7 (iV (n : Int)), .o 8 (oJ .i64 ((i : Int) + 1) ((((i + 1) : Nat) : Int)))]), h20⟩
 refine go [.v 2 0 (oF ((i : Int) < (n : Int)))] <| up <| go [] ?_
 exact en (iV (-1)) [] ⟨_, _, rfl, ⟨-1, rfl, (by decide : (-1 : Int) ≤ -1), ⟨fun h_ => absurd h_ (by decide), fun h_ => absurd h_ (tk_not hno (by omega))⟩, rfl⟩, (tk2 (sf1 (sf2 (tk3 (sf2 (sf1 (sf2 h17)))))))⟩

theorem oct_ht (p : Option Addr) (n c : Nat) (L : List Ky) (X : Assn) (hX : Gv X p n (fl eO L)) (hL : L.length = n) (hn : n ≤ 1000000) (x y z : Int) : HT Tryz.prog 242 [.slice p n c, .agg #[iV x, iV y, uV z]] [X] (fun v K => v = .bool (decide ((x, y, z) ∈ L)) ∧ K = [X]) := by
 refine hiS Tryz.func242 Tryz.ntmps242 fun g w0 R h0 => go [] <| nP 72 [iV x, iV y, uV z] h0 (fun _ _ h12 => ?_)
 have h15 := tk3 (sf2 (sf1 (sf2 h12)))
 refine go [rd 1 1 0 0 3 h12] <| cP Tryz.call276 (oix_ht p n c L X hX hL hn x y z) h15 ?_
 rintro v K _ (⟨r13, rfl, h14, h14b, rfl⟩) h17
 have h18 := ap1 h17
 by_cases c19 : r13 ≥ 0
 ·
  refine go [.v 1 3 (oT (r13 ≥ 0))] ?_
  exact en (.bool true) [] ⟨_, _, rfl, ⟨by rw [decide_eq_true (h14b.1 (by omega))], rfl⟩, (tk2 (sf1 (sf2 h18)))⟩
 refine go [.v 1 3 (oF (r13 ≥ 0))] ?_
 exact en (.bool false) [] ⟨_, _, rfl, ⟨by rw [decide_eq_false (fun h_ => absurd (h14b.2 h_) (by omega))], rfl⟩, (tk2 (sf1 (sf2 h18)))⟩

end Go.Proofs.YtehlamblpekmkaaGreatDoor

/-
  What is there, and the parts of a world. No program in sight.
-/
namespace Go.Proofs.YtehlamblpekmkaaGreatDoor
set_option maxHeartbeats 4000000
theorem thr_mem {X : Xs} {k y z : Int} (hy : 0 ≤ y) : (k, y, z) ∈ allK k X ↔ (As X)[y.toNat]? = some (1, z) := by
  unfold allK
  rw [List.mem_map]
  constructor
  · rintro ⟨⟨j, g⟩, h1, h2⟩
    simp only [Prod.mk.injEq] at h2
    obtain ⟨_, rfl, rfl⟩ := h2
    obtain ⟨i, hi⟩ := List.getElem?_of_mem h1
    have h3 := (inS_mem hi).2
    rw [Nat.sub_zero] at h3
    rw [Int.toNat_natCast]
    exact h3
  · intro h
    have h4 := inS_at (q := 1) h rfl
    refine ⟨(y.toNat, z), List.mem_of_getElem? h4, ?_⟩
    simp only [Prod.mk.injEq, true_and, and_true]
    omega
theorem thr_dec {S : Wst} {k y z : Int} (h : KGood (k, y, z)) : decide ((k, y, z) ∈ allK k (S.tab k)) = decide (Thr S (k, y, z)) := by
  have h1 := thr_mem (X := S.tab k) (k := k) (y := y) (z := z) h.2.2.1
  by_cases h2 : (k, y, z) ∈ allK k (S.tab k)
  · rw [decide_eq_true h2, decide_eq_true (show Thr S (k, y, z) from ⟨h, h1.1 h2⟩)]
  · rw [decide_eq_false h2, decide_eq_false (show ¬ Thr S (k, y, z) from fun h3 => h2 (h1.2 h3.2))]
end Go.Proofs.YtehlamblpekmkaaGreatDoor
