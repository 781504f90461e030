/-
  Many blocks with the same cells, behind a list of their numbers. No program in sight.
-/
import Derived.Test.YtcgkoffnknpgjaaGreatDoorRn2
namespace Go.Proofs.YtcgkoffnknpgjaaGreatDoor
set_option linter.unusedVariables false
set_option linter.unusedSimpArgs false
def Bs(cs:List Value)(t:Nat)(ps:List Nat):Assn:=star (ps.map fun b=>Cl b cs t)
section
variable {g w : World} {L : List Assn} {cs : List Value} {t : Nat} {ps : List Nat}
theorem bs_nil(h:sat g w L):sat g w (Bs cs t []::L):=sat_star (K:= []) h
theorem bs_cons{b:Nat}(h:sat g w (Cl b cs t::Bs cs t ps::L)):sat g w (Bs cs t (b::ps)::L):=by
 have h1:=sat_unstar (K:=ps.map fun b=>Cl b cs t) (L:=L++ [Cl b cs t]) (sat_rot (A:= [Cl b cs t]) (B:=Bs cs t ps::L) h)
 have h2:sat g w ((ps.map (fun b=>Cl b cs t)++L)++ [Cl b cs t]):=by rw[List.append_assoc];exact h1
 exact sat_star (K:=Cl b cs t::ps.map fun b=>Cl b cs t) (sat_rot (A:=ps.map (fun b=>Cl b cs t)++L) (B:= [Cl b cs t]) h2)
theorem bs_uncons{b:Nat}(h:sat g w (Bs cs t (b::ps)::L)):sat g w (Cl b cs t::Bs cs t ps::L):=by
 have h1:sat g w ([Cl b cs t]++(ps.map (fun b=>Cl b cs t)++L)):=sat_unstar (K:=(b::ps).map fun b=>Cl b cs t) h
 have h2:=sat_rot h1
 rw[List.append_assoc] at h2
 exact sat_rot (A:=Bs cs t ps::L) (B:= [Cl b cs t]) (sat_star h2)
theorem bs_app{qs:List Nat}(h:sat g w (Bs cs t (ps++qs)::L)):sat g w (Bs cs t ps::Bs cs t qs::L):=by
 have h1:sat g w ((ps++qs).map (fun b=>Cl b cs t)++L):=sat_unstar h
 rw[List.map_append,List.append_assoc] at h1
 have h2:sat g w ([Bs cs t ps]++(qs.map (fun b=>Cl b cs t)++L)):=sat_star (K:=ps.map fun b=>Cl b cs t) h1
 have h3:=sat_rot h2
 rw[List.append_assoc] at h3
 exact sat_rot (A:=Bs cs t qs::L) (B:= [Bs cs t ps]) (sat_star h3)
theorem bs_join{qs:List Nat}(h:sat g w (Bs cs t ps::Bs cs t qs::L)):sat g w (Bs cs t (ps++qs)::L):=by
 induction ps generalizing L with
 |nil=>exact sat_sel_tail h
 |cons b ps ih=>
  have h1:=bs_uncons h
  have h2:sat g w (Bs cs t ps::Bs cs t qs::(L++ [Cl b cs t])):=sat_rot (A:= [Cl b cs t]) (B:=Bs cs t ps::Bs cs t qs::L) h1
  have h3:=ih h2
  exact bs_cons (sat_rot (A:=Bs cs t (ps++qs)::L) (B:= [Cl b cs t]) h3)
theorem bs_snoc{b:Nat}(h:sat g w (Cl b cs t::Bs cs t ps::L)):sat g w (Bs cs t (ps++ [b])::L):=by
 have h1:sat g w (Cl b cs t::Bs cs t []::Bs cs t ps::L):=by
  have h2:=bs_nil (cs:=cs) (t:=t) h
  exact sat_sx h2
 have h3:=bs_cons h1
 exact bs_join (sat_sx h3)
theorem bs_at{b i:Nat}(hb:ps[i]? =some b):ps.take i++b::ps.drop (i+1)=ps:=by
 obtain⟨hi,rfl⟩:=List.getElem?_eq_some_iff.1 hb
 rw[List.getElem_cons_drop hi,List.take_append_drop]
theorem bs_get{b i:Nat}(hb:ps[i]? =some b)(h:sat g w (Bs cs t ps::L)):sat g w (Cl b cs t::Bs cs t (ps.take i)::Bs cs t (ps.drop (i+1))::L):=
 (bs_uncons (sat_sx (bs_app ((bs_at hb).symm▸h)))).b.a
theorem bs_put{b i:Nat}(hb:ps[i]? =some b)(h:sat g w (Cl b cs t::Bs cs t (ps.take i)::Bs cs t (ps.drop (i+1))::L)):sat g w (Bs cs t ps::L):=by
 have h1:=bs_join ((bs_cons h.b.a).a)
 rw[bs_at hb] at h1
 exact h1
end
end Go.Proofs.YtcgkoffnknpgjaaGreatDoor
