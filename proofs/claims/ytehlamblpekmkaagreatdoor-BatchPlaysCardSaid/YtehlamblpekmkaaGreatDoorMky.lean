/-
  Maps with keys of three integers and any values: how many, look-ups, also through what was there before. No program in sight.
-/
import Derived.Test.YtehlamblpekmkaaGreatDoorMrg
import Derived.Test.YtehlamblpekmkaaGreatDoorMap
namespace Go.Proofs.YtehlamblpekmkaaGreatDoor
section
variable {β : Type} {P : Program} {w : World} {key : TypeId}
theorem run_askG(K:KeyOk P key)(ve:β→Value)(k:Ky): ∀(es:List MapEntry) (E:List (Ky×β)) (i:Nat),(es.map fun e=>(e.key,e.val))=E.map (gEnc kv ve)→(Instr.findAsking key (kv k) es i).run P w= .ok ((gfind E k i).map fun q=>(q.1,ve q.2)) w
 | [],E,i,h=>by
  have:E= []:=by cases E;rfl;simp at h
  subst this
  simp[Instr.findAsking,gfind]
 |e::es,E,i,h=>by
  match E,h with
  |(a,v)::E,h=>
   simp only[List.map_cons,List.cons.injEq,gEnc,Prod.mk.injEq] at h
   obtain⟨⟨h1,h2⟩,h3⟩:=h
   have ih:=run_askG K ve k es E (i+1) h3
   simp only[Instr.findAsking,Sem.run_bind,h1,K.eq,Result.andThen_ok,gfind]
   by_cases hk:k=a
   · subst hk
     simp[h2]
   · simp only[hk,decide_false,Bool.false_eq_true,if_false]
     exact ih
theorem kyOf(K:KeyOk P key):KyOk P key kv where
 fk ve k es E w h:=by
  obtain⟨fs,hs⟩:=K.st
  unfold Instr.findKey
  simp only[Sem.run_bind,run_underlying hs,Result.andThen_ok]
  cases es with
  |nil=>
   have:E= []:=by cases E;rfl;simp at h
   subst this
   simp[Instr.findNow,gfind]
  |cons e es=>
   have h1:Instr.findNow (.struct fs) (kv k) (e::es) 0=none:=by simp[Instr.findNow,Instr.sameNow]
   rw[h1]
   exact run_askG K ve k (e::es) E 0 h
 ck a e w:=K.ck a e w
 sm a:=same_kv a
end
section
variable {α β : Type} [DecidableEq α] {kv : α → Value} {ve : β → Value}
variable {P : Program} {g w : World} {L : List Assn} {n : Nat} {l : Fr} {o : Oper} {key elem b : Nat} {E : List (α × β)}
end
section
variable {α β : Type} {kv : α → Value} {ve : β → Value} {P : Program} {g w : World} {L : List Assn} {n : Nat} {l : Fr} {o : Oper} {key elem b : Nat} {E : List (α × β)}
end
end Go.Proofs.YtehlamblpekmkaaGreatDoor
