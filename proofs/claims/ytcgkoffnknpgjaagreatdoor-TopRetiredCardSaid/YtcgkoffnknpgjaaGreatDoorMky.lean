/-
  Maps with keys of three integers and any values: how many, look-ups, also through what was there before. No program in sight.
-/
import Derived.Test.YtcgkoffnknpgjaaGreatDoorMrg
import Derived.Test.YtcgkoffnknpgjaaGreatDoorMap
namespace Go.Proofs.YtcgkoffnknpgjaaGreatDoor
set_option linter.unusedVariables false
set_option linter.unusedSimpArgs false
section
variable {β : Type} {P : Program} {w : World} {key : TypeId}
theorem run_askG(K:KeyOk P key)(ve:β→Value)(k:Ky): ∀(es:List MapEntry) (E:List (Ky×β)) (i:Nat),(es.map fun e=>(e.key,e.val))=E.map (gEnc kv ve)→(Instr.findAsking key (kv k) es i).run P w= .ok ((gfind E k i).map fun q=>(q.1,ve q.2)) w
 | [],E,i,h=>by
  have:E= []:=by cases E;rfl;simp at h
  subst this
  simp[Instr.findAsking,gfind]
 |e::es,E,i,h=>by
  match E,h with
  |(a,v)::E,h=>
   simp only[List.map_cons,List.cons.injEq,gEnc,Prod.mk.injEq] at h
   obtain⟨⟨h1,h2⟩,h3⟩:=h
   have ih:=run_askG K ve k es E (i+1) h3
   simp only[Instr.findAsking,Sem.run_bind,h1,K.eq,Result.andThen_ok,gfind]
   by_cases hk:k=a
   · subst hk
     simp[h2]
   · simp only[hk,decide_false,Bool.false_eq_true,if_false]
     exact ih
theorem kyOf(K:KeyOk P key):KyOk P key kv where
 fk ve k es E w h:=by
  obtain⟨fs,hs⟩:=K.st
  unfold Instr.findKey
  simp only[Sem.run_bind,run_underlying hs,Result.andThen_ok]
  cases es with
  |nil=>
   have:E= []:=by cases E;rfl;simp at h
   subst this
   simp[Instr.findNow,gfind]
  |cons e es=>
   have h1:Instr.findNow (.struct fs) (kv k) (e::es) 0=none:=by simp[Instr.findNow,Instr.sameNow]
   rw[h1]
   exact run_askG K ve k (e::es) E 0 h
 ck a e w:=K.ck a e w
 sm a:=same_kv a
end
theorem mok_len{α β:Type}{kv:α→Value}{ve:β→Value}{E:List (α×β)}{es:Array MapEntry}{clock:Nat}(he:MOk kv ve E es clock):es.size=E.length:=by
 have h:=congrArg List.length he.1
 simpa using h
section
variable {α β : Type} [DecidableEq α] {kv : α → Value} {ve : β → Value}
variable {P : Program} {g w : World} {L : List Assn} {n : Nat} {l : Fr} {o : Oper} {key elem b : Nat} {E : List (α × β)}
theorem lookup_heap{es:Array MapEntry}{clock t:Nat}{z:Value}(K:KyOk P key kv)(he:MOk kv ve E es clock)(hb:w.heap[b]? =some (.map es clock))(ht:P.underlying t=some (.map key elem))(hz:(P.info? elem).map (·.zero)=some (some z))(k:α)(v:Value)
 (h1: ∀u,gget E k=some u→ve u=v)(h0:gget E k=none→z=v):(Instr.lookup t (.map (some b)) (kv k) false).run P w= .ok v w:=by
 have hf:=K.fk ve k es.toList E w he.1
 have hg:(getObj b).run P w= .ok (.map es clock) w:=by simp[getObj,Sem.run,hb]
 have hget:=gfind_get E k 0
 have hzv:(zeroValue elem).run P w= .ok z w:=by
  cases hq:P.info? elem with
  |none=>simp[hq] at hz
  |some i=>
   simp only[hq,Option.map_some,Option.some.injEq] at hz
   simp[zeroValue,typeInfo,hq,hz]
 unfold Instr.lookup
 simp only[Sem.run_bind,run_underlying ht,Result.andThen_ok,hg,K.ck,hf,Sem.run_pure]
 cases hm:gfind E k 0 with
 |none=>
  rw[hm] at hget
  obtain rfl:=h0 hget.symm
  simp[hzv]
 |some q=>
  rw[hm] at hget
  obtain rfl:=h1 _ hget.symm
  simp
theorem law_lookupG{t:Nat}{m x:Operand}{z:Value}(ho:o.op= .lookup t m x false)(ht:P.underlying t=some (.map key elem))(K:KyOk P key kv)(hz:(P.info? elem).map (·.zero)=some (some z))(k:α)(hm:fe n l m= .map (some b))(hx:fe n l x=kv k){j:Nat}(hs:sat g w L)(hj:L[j]? =some (Gp kv ve b E))(v:Value)
 (h1: ∀u,gget E k=some u→ve u=v)(h0:gget E k=none→z=v):(execOp (fe n l) o).run P w= .ok (.value v) w:=by
 obtain⟨es,clock,he,hb⟩:=gp_use hs hj
 have hl:=lookup_heap K he hb ht hz k v h1 h0
 unfold execOp
 simp[ho,hm,hx,hl]
end
section
variable {α β : Type} {kv : α → Value} {ve : β → Value} {P : Program} {g w : World} {L : List Assn} {n : Nat} {l : Fr} {o : Oper} {key elem b : Nat} {E : List (α × β)}
theorem law_lenG{t:Nat}{x:Operand}(ho:o.op= .call {callee:= .builtin .len,args:= #[x],argTypes:= #[t]})(ht:P.underlying t=some (.map key elem))(hx:fe n l x= .map (some b)){j:Nat}(hs:sat g w L)(hj:L[j]? =some (Gp kv ve b E)):(execOp (fe n l) o).run P w= .ok (.value (.int .i64 (E.length:Int))) w:=by
 obtain⟨es,clock,he,hb⟩:=gp_use hs hj
 have hg:(getObj b).run P w= .ok (.map es clock) w:=by simp[getObj,Sem.run,hb]
 have hn:=mok_len he
 unfold execOp
 simp[ho,resolve,invoke,builtin,hx,Builtin.len_,run_underlying ht,hg,hn,goInt]
end
end Go.Proofs.YtcgkoffnknpgjaaGreatDoor
