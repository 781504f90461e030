/-
  Many blocks with the same cells, behind a list of their numbers. No program in sight.
-/
import Derived.Test.YtcgkoffnknpgjaaGreatDoorRn2x
namespace Go.Proofs.YtcgkoffnknpgjaaGreatDoor
set_option linter.unusedVariables false
set_option linter.unusedSimpArgs false
def Bs(cs:List Value)(t:Nat)(ps:List Nat):AB:=Aj (ps.map fun b=>Cl b cs t)
section
variable {g w : World} {L : List AB} {cs : List Value} {t : Nat} {ps : List Nat}
theorem Ic(h:sat g w L):sat g w (Bs cs t []::L):=AO (K:= []) h
theorem EA{b:Nat}(h:sat g w (Cl b cs t::Bs cs t ps::L)):sat g w (Bs cs t (b::ps)::L):=by
 have h1:=AK (K:=ps.map fun b=>Cl b cs t) (L:=L++ [Cl b cs t]) (AN (A:= [Cl b cs t]) (B:=Bs cs t ps::L) h)
 have h2:sat g w ((ps.map (fun b=>Cl b cs t)++L)++ [Cl b cs t]):=by rw[List.append_assoc];exact h1
 exact AO (K:=Cl b cs t::ps.map fun b=>Cl b cs t) (AN (A:=ps.map (fun b=>Cl b cs t)++L) (B:= [Cl b cs t]) h2)
theorem MO{b:Nat}(h:sat g w (Bs cs t (b::ps)::L)):sat g w (Cl b cs t::Bs cs t ps::L):=by
 have h1:sat g w ([Cl b cs t]++(ps.map (fun b=>Cl b cs t)++L)):=AK (K:=(b::ps).map fun b=>Cl b cs t) h
 have h2:=AN h1
 rw[List.append_assoc] at h2
 exact AN (A:=Bs cs t ps::L) (B:= [Cl b cs t]) (AO h2)
theorem mM{qs:List Nat}(h:sat g w (Bs cs t (ps++qs)::L)):sat g w (Bs cs t ps::Bs cs t qs::L):=by
 have h1:sat g w ((ps++qs).map (fun b=>Cl b cs t)++L):=AK h
 rw[List.map_append,List.append_assoc] at h1
 have h2:sat g w ([Bs cs t ps]++(qs.map (fun b=>Cl b cs t)++L)):=AO (K:=ps.map fun b=>Cl b cs t) h1
 have h3:=AN h2
 rw[List.append_assoc] at h3
 exact AN (A:=Bs cs t qs::L) (B:= [Bs cs t ps]) (AO h3)
theorem Tn{qs:List Nat}(h:sat g w (Bs cs t ps::Bs cs t qs::L)):sat g w (Bs cs t (ps++qs)::L):=by
 induction ps generalizing L with
 |nil=>exact Ar h
 |cons b ps ih=>
  have h1:=MO h
  have h2:sat g w (Bs cs t ps::Bs cs t qs::(L++ [Cl b cs t])):=AN (A:= [Cl b cs t]) (B:=Bs cs t ps::Bs cs t qs::L) h1
  have h3:=ih h2
  exact EA (AN (A:=Bs cs t (ps++qs)::L) (B:= [Cl b cs t]) h3)
theorem dB{b:Nat}(h:sat g w (Cl b cs t::Bs cs t ps::L)):sat g w (Bs cs t (ps++ [b])::L):=by
 have h1:sat g w (Cl b cs t::Bs cs t []::Bs cs t ps::L):=by
  have h2:=Ic (cs:=cs) (t:=t) h
  exact NM h2
 have h3:=EA h1
 exact Tn (NM h3)
theorem kQ{b i:Nat}(hb:ps[i]? =some b):ps.take i++b::ps.drop (i+1)=ps:=by
 obtain⟨hi,rfl⟩:=List.getElem?_eq_some_iff.1 hb
 rw[List.getElem_cons_drop hi,List.take_append_drop]
theorem Rx{b i:Nat}(hb:ps[i]? =some b)(h:sat g w (Bs cs t ps::L)):sat g w (Cl b cs t::Bs cs t (ps.take i)::Bs cs t (ps.drop (i+1))::L):=
 (MO (NM (mM ((kQ hb).symm▸h)))).b.a
theorem Ry{b i:Nat}(hb:ps[i]? =some b)(h:sat g w (Cl b cs t::Bs cs t (ps.take i)::Bs cs t (ps.drop (i+1))::L)):sat g w (Bs cs t ps::L):=by
 have h1:=Tn ((EA h.b.a).a)
 rw[kQ hb] at h1
 exact h1
end
end Go.Proofs.YtcgkoffnknpgjaaGreatDoor
