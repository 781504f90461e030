/-
  Contracts over assertions that carry a fact. Lemmas of the engine, no program.
-/
import Derived.Test.YtcgkoffnknpgjaaGreatDoorSepx
namespace Go.Proofs.YtcgkoffnknpgjaaGreatDoor
set_option linter.unusedVariables false
set_option linter.unusedSimpArgs false
def Wi(p:Prop)(B:AB):AB:=fun h=>p∧B h
theorem FV{g w:World}{A B:AB}{L:List AB}(h:sat g w (A::B::L)):sat g w (B::A::L):=by
 obtain⟨s,Z,hZ,ok,pw⟩:=h
 match Z,hZ with
 |z1::z2::Z,hZ=>
  simp only[List.map_cons,List.cons.injEq] at hZ
  refine⟨s,z2::z1::Z,by simp[hZ.1,hZ.2.1,hZ.2.2],fun z hz=>ok z ?_,?_⟩
  · simp only[List.mem_cons] at hz ⊢
    rcases hz with h1|h1|h1
    · exact .inr (.inl h1)
    · exact .inl h1
    · exact .inr (.inr h1)
  · obtain⟨h1,h2⟩:=List.pairwise_cons.1 pw
    obtain⟨h3,h4⟩:=List.pairwise_cons.1 h2
    refine List.pairwise_cons.2 ⟨fun z hz=> ?_,List.pairwise_cons.2 ⟨fun z hz=>h1 z (List.mem_cons_of_mem _ hz),h4⟩⟩
    rcases List.mem_cons.1 hz with rfl |hz
    · exact(h1 z2 List.mem_cons_self).symm
    · exact h3 z hz
section
variable {P : Program} {f : FuncId} {args : List Value} {p : Prop} {B : AB} {Pre K : List AB} {g w : World}
theorem IZ(h:sat g w (Wi p B::K)):p∧sat g w (B::K):=by
 obtain⟨_,hp,hs⟩:=Af (X:=Unit) (p:=fun _=>p) (B:=fun _=>B) h (fun k hk=>⟨(),hk.1,hk.2⟩)
 exact⟨hp,hs⟩
theorem MK(hp:p)(h:sat g w (B::K)):sat g w (Wi p B::K):=AI h fun _ hk=>⟨hp,hk⟩
theorem HT.wi{Post:Value→List AB→Prop}(h:p→HT P f args (B::Pre) Post):HT P f args (Wi p B::Pre) Post:=fun g w F hs=>h (IZ hs).1 g w F (IZ hs).2
theorem HT.post{Post Post':Value→List AB→Prop}(h:HT P f args Pre Post)(hp: ∀v K,Post v K→ ∃K',Post' v K'∧ ∀(g w:World) (F:List AB),sat g w (K++F)→sat g w (K'++F)):HT P f args Pre Post':=
 fun g w F hs=>(h g w F hs).mono fun _ _ ⟨v,K,he,hP,hs'⟩=>by
  obtain⟨K',h1,h2⟩:=hp v K hP
  exact⟨v,K',he,h1,h2 _ _ _ hs'⟩
theorem I9{q:Prop}{B':AB}{val:Value}(h:p→HT P f args (B::Pre) (fun v K=>v=val∧K=B'::Pre))(hq:p→q):HT P f args (Wi p B::Pre) (fun v K=>v=val∧K=Wi q B'::Pre):=
 HT.wi fun hp=>(h hp).post fun v K hP=>⟨Wi q B'::Pre,⟨hP.1,rfl⟩,fun g w F hs=>by
  rw[hP.2] at hs
  exact MK (hq hp) hs⟩
end
end Go.Proofs.YtcgkoffnknpgjaaGreatDoor
