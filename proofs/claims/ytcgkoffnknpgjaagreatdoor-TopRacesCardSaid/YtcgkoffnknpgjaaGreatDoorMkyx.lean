/-
  Maps with keys of three integers and any values: how many, look-ups, also through what was there before. No program in sight.
-/
import Derived.Test.YtcgkoffnknpgjaaGreatDoorMrgx
namespace Go.Proofs.YtcgkoffnknpgjaaGreatDoor
set_option linter.unusedVariables false
set_option linter.unusedSimpArgs false
section
variable {β : Type} {P : Program} {w : World} {key : TypeId}
theorem PZ(K:KeyOk P key)(ve:β→Value)(k:Ky): ∀(es:List MapEntry) (E:List (Ky×β)) (i:Nat),(es.map fun e=>(e.key,e.val))=E.map (Dd kv ve)→(Instr.findAsking key (kv k) es i).run P w= .ok ((Bd E k i).map fun q=>(q.1,ve q.2)) w
 | [],E,i,h=>by
  have:E= []:=by cases E;rfl;simp at h
  subst this
  simp[Instr.findAsking,Bd]
 |e::es,E,i,h=>by
  match E,h with
  |(a,v)::E,h=>
   simp only[List.map_cons,List.cons.injEq,Dd,Prod.mk.injEq] at h
   obtain⟨⟨h1,h2⟩,h3⟩:=h
   have ih:=PZ K ve k es E (i+1) h3
   simp only[Instr.findAsking,Sem.run_bind,h1,K.eq,Result.andThen_ok,Bd]
   by_cases hk:k=a
   · subst hk
     simp[h2]
   · simp only[hk,decide_false,Bool.false_eq_true,if_false]
     exact ih
theorem yP(K:KeyOk P key):KyOk P key kv where
 fk ve k es E w h:=by
  obtain⟨fs,hs⟩:=K.st
  unfold Instr.findKey
  simp only[Sem.run_bind,run_underlying hs,Result.andThen_ok]
  cases es with
  |nil=>
   have:E= []:=by cases E;rfl;simp at h
   subst this
   simp[Instr.findNow,Bd]
  |cons e es=>
   have h1:Instr.findNow (.struct fs) (kv k) (e::es) 0=none:=by simp[Instr.findNow,Instr.sameNow]
   rw[h1]
   exact PZ K ve k (e::es) E 0 h
 ck a e w:=K.ck a e w
 sm a:=TY a
end
theorem cW{α β:Type}{kv:α→Value}{ve:β→Value}{E:List (α×β)}{es:Array MapEntry}{clock:Nat}(he:MJ kv ve E es clock):es.size=E.length:=by
 have h:=congrArg List.length he.1
 simpa using h
section
variable {α β : Type} [DecidableEq α] {kv : α → Value} {ve : β → Value}
variable {P : Program} {g w : World} {L : List AB} {n : Nat} {l : Fr} {o : Oper} {key elem b : Nat} {E : List (α × β)}
end
section
variable {α β : Type} {kv : α → Value} {ve : β → Value} {P : Program} {g w : World} {L : List AB} {n : Nat} {l : Fr} {o : Oper} {key elem b : Nat} {E : List (α × β)}
theorem Pa{t:Nat}{x:Operand}(ho:o.op= .call {callee:= .builtin .len,args:= #[x],argTypes:= #[t]})(ht:P.underlying t=some (.map key elem))(hx:fe n l x= .map (some b)){j:Nat}(hs:sat g w L)(hj:L[j]? =some (Gp kv ve b E)):(execOp (fe n l) o).run P w= .ok (.value (.int .i64 (E.length:Int))) w:=by
 obtain⟨es,clock,he,hb⟩:=XZ hs hj
 have hg:(getObj b).run P w= .ok (.map es clock) w:=by simp[getObj,Sem.run,hb]
 have hn:=cW he
 unfold execOp
 simp[ho,resolve,invoke,builtin,hx,Builtin.len_,run_underlying ht,hg,hn,goInt]
end
end Go.Proofs.YtcgkoffnknpgjaaGreatDoor
