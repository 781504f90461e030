/-
  The engine of my walks: frames as logs of writes, code named by its place, batches of operations reckoned by the kernel, and one rule for each kind of operation that acts.
-/
import Derived.Test.YtcgkoffnknpgjaaGreatDoorOrdx
namespace Go.Proofs.YtcgkoffnknpgjaaGreatDoor
set_option linter.unusedVariables false
set_option linter.unusedSimpArgs false
abbrev Fr:=List (Nat×Value)
def lk:Fr→Nat→Value
 | [],_=>undef
 |(j,v)::r,k=>bif Nat.beq j k then v else lk r k
def Ad(ds:List Deferred)(n:Nat)(l:Fr):Act:= {tmps:=((List.range n).map (lk l)).toArray,defers:=ds}
abbrev mk(n:Nat)(l:Fr):Act:=Ad [] n l
variable {ds : List Deferred}
def fe(n:Nat)(l:Fr):Operand→Value
 | .tmp t=>bif Nat.blt t n then lk l t else undef
 | .const v=>v
 | .global g=> .pointer (some ⟨g,0,none⟩)
 | .func f=> .func (.func f) #[] #[]
theorem TR(a b:Nat):Nat.beq a b=decide (a=b):=by
 cases h:Nat.beq a b with
 |true=>simp[Nat.eq_of_beq_eq_true h]
 |false=>simp[Nat.ne_of_beq_eq_false h]
theorem BJ(a b:Nat):Nat.blt a b=decide (a<b):=by
 unfold Nat.blt
 cases h:Nat.ble (a+1) b with
 |true=>simp;have:=Nat.le_of_ble_eq_true h;omega
 |false=>
  simp
  rcases Nat.lt_or_ge a b with h1|h1
  · have:=Nat.ble_eq_true_of_le (show a+1≤b from h1)
    rw[h] at this
    cases this
  · exact h1
theorem HK(j:Nat)(v:Value)(r:Fr)(k:Nat):lk ((j,v)::r) k=if j=k then v else lk r k:=by
 simp[lk,TR,cond_eq_ite]
theorem W7(n:Nat)(l:Fr)(k:Nat):(Ad ds n l).tmps[k]? =if k<n then some (lk l k) else none:=by
 by_cases h:k<n<;>simp[Ad,h]
theorem An(n:Nat)(l:Fr):(Ad ds n l).eval=fe n l:=by
 funext x
 cases x with
 |tmp t=>
  simp only[Act.eval,fe,BJ]
  rw[Array.getD_eq_getD_getElem?,W7]
  by_cases h:t<n<;>simp[h]
 |_=>rfl
theorem CE{n:Nat}{l:Fr}{d:Nat}{v:Value}(h:d<n):(Ad ds n l).put (some d) v=Ad ds n ((d,v)::l):=by
 simp only[Act.put,Ad,Act.mk.injEq,and_true]
 apply Array.ext'
 rw[Array.toList_setIfInBounds]
 apply List.ext_getElem?
 intro k
 rw[List.getElem?_set]
 by_cases hk:k<n
 · by_cases hd:d=k
   · subst hd;simp[hk,HK]
   · simp[hk,hd,HK]
 · have:d≠k:=by omega
   simp[this,hk]
theorem W8{n:Nat}{l:Fr}{k:Nat}{v:Value}(h:lk l k=v):Ad ds n l=Ad ds n ((k,v)::l):=by
 unfold Ad
 congr 3
 funext j
 rw[HK]
 split
 · rename_i e;rw[←e,h]
 · rfl
def fy(ops:Array Oper)(n:Nat)(l:Fr)(j:Nat):Option Bool:=
 match (ops[j]?).bind (·.dst) with
 |some t=>bif Nat.blt t n then (match lk l t with | .bool b=>some b|_=>none) else none
 |none=>none
theorem CF(ops:Array Oper)(n:Nat)(l:Fr):yielded ops (Ad ds n l).tmps=fy ops n l:=by
 funext j
 unfold yielded fy
 cases h:(ops[j]?).bind (·.dst) with
 |none=>rfl
 |some t=>
  simp only[Option.bind_some,W7,BJ,cond_eq_ite,decide_eq_true_eq]
  by_cases ht:t<n
  · simp only[ht,if_true]
    generalize lk l t=v
    cases v<;>rfl
  · simp[ht]
def EU{α:Type}(P:Program):Sem α→List Value→Option (α×List (Addr×Value))
 | .pure a,[]=>some (a,[])
 | .load _ a k,v::vs=>match EU P (k v) vs with
  |some (x,ls)=>some (x,(a,v)::ls)
  |none=>none
 | .program k,vs=>EU P (k P) vs
 | .mark _ k,vs=>EU P k vs
 |_,_=>none
theorem HL{α:Type}{P:Program}(s:Sem α): ∀ {vs:List Value} {x:α} {ls:List (Addr×Value)} {w:World},EU P s vs=some (x,ls)→(∀q∈ls,w.cell? q.1=some q.2)→s.run P w= .ok x w:=by
 induction s with
 |pure a=>
  intro vs x ls w h _
  cases vs with
  |nil=>simp only[EU,Option.some.injEq,Prod.mk.injEq] at h;rw[h.1];rfl
  |cons=>simp[EU] at h
 |load m a k ih=>
  intro vs x ls w h hl
  cases vs with
  |nil=>simp[EU] at h
  |cons v vs=>
   simp only[EU] at h
   split at h
   · rename_i x' ls' e
     simp only[Option.some.injEq,Prod.mk.injEq] at h
     obtain⟨rfl,rfl⟩:=h
     have h1:=hl (a,v) (by simp)
     simp only[Sem.run,h1]
     exact ih v e (fun q hq=>hl q (by simp[hq]))
   · cases h
 |program k ih=>intro vs x ls w h hl;simp only[EU] at h;simp only[Sem.run];exact ih P h hl
 |mark m k ih=>intro vs x ls w h hl;simp only[EU] at h;simp only[Sem.run];exact ih h hl
 |_=>intro vs x ls w h _;simp[EU] at h
def Jw{α:Type}(P:Program):Sem α→Nat→Option (α×Obj)
 | .new o k,r=>match EU P (k r) [] with
  |some (x,_)=>some (x,o)
  |none=>none
 | .program k,r=>Jw P (k P) r
 | .mark _ k,r=>Jw P k r
 |_,_=>none
theorem W9{α:Type}{P:Program}(s:Sem α): ∀ {x:α} {ls:List (Addr×Value)},EU P s []=some (x,ls)→ls= []:=by
 induction s with
 |pure a=>intro x ls h;simp only[EU,Option.some.injEq,Prod.mk.injEq] at h;exact h.2.symm
 |program k ih=>intro x ls h;exact ih P h
 |mark m k ih=>intro x ls h;exact ih h
 |_=>intro x ls h;simp[EU] at h
theorem XA{α:Type}{P:Program}(s:Sem α): ∀ {x:α} {o:Obj} {w:World},Jw P s w.heap.size=some (x,o)→s.run P w= .ok x (w.alloc o):=by
 induction s with
 |new o k _=>
  intro x o' w h
  simp only[Jw] at h
  split at h
  · rename_i x' ls e
    simp only[Option.some.injEq,Prod.mk.injEq] at h
    obtain⟨rfl,rfl⟩:=h
    simp only[Sem.run]
    have h0:=W9 _ e
    subst h0
    exact HL (w:=w.alloc o) _ e (by simp)
  · cases h
 |program k ih=>intro x o w h;simp only[Jw] at h;simp only[Sem.run];exact ih P h
 |mark m k ih=>intro x o w h;simp only[Jw] at h;simp only[Sem.run];exact ih h
 |_=>intro x o w h;simp[Jw] at h
def IR{α:Type}(P:Program):Sem α→Option (α×List (Addr×Value))
 | .pure a=>some (a,[])
 | .store _ a v k=>match IR P k with
  |some (x,ls)=>some (x,(a,v)::ls)
  |none=>none
 | .program k=>IR P (k P)
 | .mark _ k=>IR P k
 |_=>none
def CL(cs:List Value):List (Nat×Value)→List Value
 | []=>cs
 |(k,v)::r=>CL (cs.set k v) r
theorem XB{α:Type}{P:Program}{g:World}{b:Nat}{t:TypeId}{L:List AB}(s:Sem α): ∀ {x:α} {ks:List (Nat×Value)} {w:World} {cs:List Value},
  IR P s=some (x,ks.map fun q=>((⟨b,q.1,none⟩:Addr),q.2))→sat g w (Cl b cs t::L)→(∀q∈ks,q.1<cs.length∧q.2.oneCell'=true)→
  ∃w',s.run P w= .ok x w'∧sat g w' (Cl b (CL cs ks) t::L):=by
 induction s with
 |pure a=>
  intro x ks w cs h hs _
  simp only[IR,Option.some.injEq,Prod.mk.injEq] at h
  have:ks= []:=by have:=h.2.symm;simpa using this
  subst this
  exact⟨w,by rw[←h.1];rfl,hs⟩
 |store m a v k ih=>
  intro x ks w cs h hs hk
  simp only[IR] at h
  split at h
  · rename_i x' ls' e
    simp only[Option.some.injEq,Prod.mk.injEq] at h
    obtain⟨rfl,hl⟩:=h
    cases ks with
    |nil=>simp at hl
    |cons q ks=>
     simp only[List.map_cons,List.cons.injEq,Prod.mk.injEq] at hl
     obtain⟨⟨rfl,rfl⟩,rfl⟩:=hl
     have hq:=hk q (by simp)
     have hcell:=AL hs 0 rfl (List.getElem?_eq_getElem hq.1)
     have hb:w.heap[b]? =some (.cells cs.toArray t (0,0)):=Ax (i:=0) hs rfl
     have hfr:w.frozen? ⟨b,q.1,none⟩=false:=by simp[World.frozen?,hb]
     obtain⟨w',hw',hs'⟩:=ih e (PA (k:=q.1) (v:=q.2) hs) (fun p hp=>by
      have:=hk p (by simp[hp])
      simpa using this)
     refine⟨w',?_,hs'⟩
     rw[←hw']
     have h1:=hq.2
     cases hv:q.2<;>rw[hv] at h1<;>first|(exact Bool.noConfusion h1)|(simp[Sem.run,hcell,hfr])
  · cases h
 |program k ih=>intro x ks w cs h hs hk;simp only[IR] at h;simp only[Sem.run];exact ih P h hs hk
 |mark m k ih=>intro x ks w cs h hs hk;simp only[IR] at h;simp only[Sem.run];exact ih h hs hk
 |_=>intro x ks w cs h _ _;simp[IR] at h
def G3:List (Value×Value)→Prop
 | []=>True
 |(u,v)::r=>u=v∧G3 r
def cA(P:Program)(ops:Array Oper)(n:Nat)(l:Fr)(i:Nat)(vs:List Value):Option (Option Nat×Value×List (Addr×Value)):=
 match ops[i]? with
 |none=>none
 |some o=>
  bif Region.wanted o (fy ops n l) then
   (bif FP o.op then
    (match EU P (execOp (fe n l) o) vs with
    |some (.value v,ls)=>some (o.dst,v,ls)
    |_=>none)
   else none)
  else some (o.dst,undef,[])
def EJ(n:Nat)(l:Fr):Option Nat→Value→Option Fr
 |none,_=>some l
 |some d,v=>bif Nat.blt d n then some ((d,v)::l) else none
theorem D7{n:Nat}{l l':Fr}{d:Option Nat}{v:Value}(h:EJ n l d v=some l'):(Ad ds n l).put d v=Ad ds n l':=by
 cases d with
 |none=>simp only[EJ,Option.some.injEq] at h;rw[←h];rfl
 |some d=>
  simp only[EJ,BJ,cond_eq_ite,decide_eq_true_eq] at h
  split at h
  · rename_i hd
    simp only[Option.some.injEq] at h
    rw[←h,CE hd]
  · cases h
structure Ent where
 i:Nat
 vs:List Value:= []
 ov:Option Value:=none
def E5(P:Program)(ops:Array Oper)(n:Nat):Fr→List Ent→Option (Fr×List Pt×List (Value×Value))
 |l,[]=>some (l,[],[])
 |l,e::r=>
  match cA P ops n l e.i e.vs with
  |none=>none
  |some (d,u,ls)=>
   match EJ n l d (match e.ov with |some v=>v|none=>u) with
   |none=>none
   |some l1=>
    match E5 P ops n l1 r with
    |none=>none
    |some (l2,pts,eqs)=>some (l2,pts++ls.map (fun q=>(e.i,q.1,q.2)),match e.ov with |some v=>(u,v)::eqs|none=>eqs)
theorem IS{P:Program}{ops:Array Oper}{n:Nat}{l:Fr}{i:Nat}{vs:List Value}{d:Option Nat}{v:Value}{ls:List (Addr×Value)}(h:cA P ops n l i vs=some (d,v,ls)):
  ∃o,ops[i]? =some o∧o.dst=d∧(Region.wanted o (fy ops n l)=false∨FP o.op=true)∧YieldsIf P ops (fun w'=>BV w' (ls.map fun q=>(i,q.1,q.2))) o v (Ad ds n l):=by
 unfold cA at h
 cases ho:ops[i]? with
 |none=>simp[ho] at h
 |some o=>
  simp only[ho] at h
  refine⟨o,rfl,?_⟩
  cases hw:Region.wanted o (fy ops n l) with
  |false=>
   simp only[hw,cond_false,Option.some.injEq,Prod.mk.injEq] at h
   exact⟨h.1,.inl rfl,.inr ⟨by rw[CF];exact hw,h.2.1.symm⟩⟩
  |true=>
   simp only[hw,cond_true] at h
   cases hf:FP o.op with
   |false=>simp[hf] at h
   |true=>
    simp only[hf,cond_true] at h
    split at h
    · rename_i v' ls' e
      simp only[Option.some.injEq,Prod.mk.injEq] at h
      obtain⟨h1,rfl,rfl⟩:=h
      refine⟨h1,.inr rfl,.inl ⟨by rw[CF];exact hw,fun w hall=> ?_⟩⟩
      rw[An]
      refine HL _ e (fun q hq=> ?_)
      exact hall (i,q.1,q.2) (List.mem_map.2 ⟨q,hq,rfl⟩)
    · cases h
def AE:List Nat→Tr→Tr
 | [],t=>t
 |i::r,t=> .fl i (AE r t)
section
variable {P : Program} {ops : Array Oper} {Q : Exit → Act → World → Prop}
theorem G4{S:World→Prop}{o:Oper}{u v:Value}{a:Act}(h:YieldsIf P ops S o u a)(e:u=v):YieldsIf P ops S o v a:=e▸h
theorem Jx{n:Nat}{t:Tr}{w:World}(b:List Ent): ∀ {l l':Fr} {pts' pts:List Pt} {eqs:List (Value×Value)},E5 P ops n l b=some (l',pts',eqs)→G3 eqs→BV w pts'→
  RW P ops Q t (pts'++pts) (Ad ds n l') w→RW P ops Q (AE (b.map (·.i)) t) pts (Ad ds n l) w:=by
 induction b with
 |nil=>
  intro l l' pts' pts eqs h _ _ hr
  simp only[E5,Option.some.injEq,Prod.mk.injEq] at h
  obtain⟨rfl,rfl,_⟩:=h
  exact hr
 |cons e b ih=>
  intro l l' pts' pts eqs h he hc hr
  simp only[E5] at h
  split at h
  · cases h
  · rename_i d u ls h1
    split at h
    · cases h
    · rename_i l1 h2
      split at h
      · cases h
      · rename_i l2 pts2 eqs2 h3
        simp only[Option.some.injEq,Prod.mk.injEq] at h
        obtain⟨rfl,rfl,he2⟩:=h
        obtain⟨o,ho,hd,_,hy⟩:=IS h1
        have hcl:BV w (ls.map fun q=>(e.i,q.1,q.2)):=fun q hq=>hc q (List.mem_append_right _ hq)
        have hcr:BV w pts2:=fun q hq=>hc q (List.mem_append_left _ hq)
        refine⟨o,(match e.ov with |some v=>v|none=>u),ls.map fun q=>(e.i,q.1,q.2),ho,?_,?_,hcl,?_⟩
        · intro q hq
          obtain⟨p,_,rfl⟩:=List.mem_map.1 hq
          rfl
        · cases hov:e.ov with
          |none=>exact hy
          |some v=>
           rw[hov] at he2
           rw[←he2] at he
           exact G4 hy he.1
        · rw[hd,D7 h2]
          refine ih h3 ?_ hcr ?_
          · cases hov:e.ov with
            |none=>rw[hov] at he2;have he3:eqs2=eqs:=he2;rw[he3];exact he
            |some v=>rw[hov] at he2;rw[←he2] at he;exact he.2
          · rw[←List.append_assoc]
            exact hr
theorem NB{n:Nat}{w:World}{rest:List Nat}(b:List Ent): ∀ {l l':Fr} {pts':List Pt} {eqs:List (Value×Value)},E5 P ops n l b=some (l',pts',eqs)→G3 eqs→BV w pts'→
  wpOps P ops Q rest (Ad ds n l') w→wpOps P ops Q (b.map (·.i)++rest) (Ad ds n l) w:=by
 induction b with
 |nil=>
  intro l l' pts' eqs h _ _ hr
  simp only[E5,Option.some.injEq,Prod.mk.injEq] at h
  obtain⟨rfl,rfl,_⟩:=h
  exact hr
 |cons e b ih=>
  intro l l' pts' eqs h he hc hr
  simp only[E5] at h
  split at h
  · cases h
  · rename_i d u ls h1
    split at h
    · cases h
    · rename_i l1 h2
      split at h
      · cases h
      · rename_i l2 pts2 eqs2 h3
        simp only[Option.some.injEq,Prod.mk.injEq] at h
        obtain⟨rfl,rfl,he2⟩:=h
        obtain⟨o,ho,hd,_,hy⟩:=IS h1
        have hcl:BV w (ls.map fun q=>(e.i,q.1,q.2)):=fun q hq=>hc q (List.mem_append_right _ hq)
        have hcr:BV w pts2:=fun q hq=>hc q (List.mem_append_left _ hq)
        rw[List.map_cons,List.cons_append,wpOps_cons]
        have hy':YieldsIf P ops (fun w'=>BV w' (ls.map fun q=>(e.i,q.1,q.2))) o (match e.ov with |some v=>v|none=>u) (Ad ds n l):=by
         cases hov:e.ov with
         |none=>exact hy
         |some v=>
          rw[hov] at he2
          rw[←he2] at he
          exact G4 hy he.1
        refine hy'.wpOp ho hcl ?_
        rw[hd,D7 h2]
        refine ih h3 ?_ hcr hr
        cases hov:e.ov with
        |none=>rw[hov] at he2;have he3:eqs2=eqs:=he2;rw[he3];exact he
        |some v=>rw[hov] at he2;rw[←he2] at he;exact he.2
def PC(ops:Array Oper)(n:Nat)(l:Fr)(i d:Nat):Bool:=
 match ops[i]? with
 |none=>false
 |some o=>FP o.op&&Region.wanted o (fy ops n l)&&(match o.dst with |some d'=>Nat.beq d' d|none=>false)&&Nat.blt d n
def EV(ops:Array Oper)(i:Nat):Oper:=(ops[i]?).getD default
theorem IU{n:Nat}{l:Fr}{i d:Nat}(h:PC ops n l i d=true):ops[i]? =some (EV ops i)∧Region.wanted (EV ops i) (fy ops n l)=true∧(EV ops i).dst=some d∧d<n:=by
 unfold PC at h
 cases ho:ops[i]? with
 |none=>simp[ho] at h
 |some o=>
  simp only[ho,Bool.and_eq_true,BJ,decide_eq_true_eq] at h
  have e:EV ops i=o:=by simp[EV,ho]
  rw[e]
  refine⟨rfl,h.1.1.2,?_,h.2⟩
  have h2:=h.1.2
  cases hd:o.dst with
  |none=>rw[hd] at h2;cases h2
  |some d'=>rw[hd] at h2;rw[Nat.eq_of_beq_eq_true h2]
theorem XC{n:Nat}{t:Tr}{w:World}{l:Fr}{pts:List Pt}{i:Nat}(d:Nat)(v:Value)(ls:List (Addr×Value))(h:PC ops n l i d=true)
 (hrun: ∀w',(∀q∈ls,w'.cell? q.1=some q.2)→(execOp (fe n l) (EV ops i)).run P w'= .ok (.value v) w')(hc: ∀q∈ls,w.cell? q.1=some q.2)
 (hr:RW P ops Q t (ls.map (fun q=>(i,q.1,q.2))++pts) (Ad ds n ((d,v)::l)) w):RW P ops Q (.fl i t) pts (Ad ds n l) w:=by
 obtain⟨ho,hw,hd,hn⟩:=IU h
 refine⟨EV ops i,v,ls.map fun q=>(i,q.1,q.2),ho,?_,.inl ⟨by rw[CF];exact hw,fun w' hall=> ?_⟩,?_,?_⟩
 · intro q hq
   obtain⟨p,_,rfl⟩:=List.mem_map.1 hq
   rfl
 · rw[An]
   exact hrun w' (fun q hq=>hall (i,q.1,q.2) (List.mem_map.2 ⟨q,hq,rfl⟩))
 · intro q hq
   obtain⟨p,hp,rfl⟩:=List.mem_map.1 hq
   exact hc p hp
 · rw[hd,CE hn]
   exact hr
theorem Rf{n:Nat}{rest:List Nat}{w:World}{l:Fr}{i:Nat}(d:Nat)(v:Value)(h:PC ops n l i d=true)
 (hrun:(execOp (fe n l) (EV ops i)).run P w= .ok (.value v) w)(hr:wpOps P ops Q rest (Ad ds n ((d,v)::l)) w):wpOps P ops Q (i::rest) (Ad ds n l) w:=by
 obtain⟨ho,hw,hd,hn⟩:=IU h
 rw[wpOps_cons]
 unfold wpOp
 rw[ho]
 simp only[CF,hw,if_true]
 refine .inl ?_
 unfold Oper.wp
 rw[An,hrun,Oper.upon_value,hd,CE hn]
 exact hr
def Gr(ops:Array Oper)(n:Nat)(l:Fr)(i:Nat):Bool:=
 match ops[i]? with
 |none=>false
 |some o=>Region.wanted o (fy ops n l)
theorem VC{n:Nat}{l:Fr}{w:World}{pts:List Pt}{i:Nat}{K:List Pt→Act→World→Prop}(kp:List Pt)(h:Gr ops n l i=true)(hkp:CK ops i pts=kp)
 (hr:(EV ops i).wp P (Ad ds n l) w (fun a' w'=>BV w' kp∧K kp a' w') Q):VB P ops Q i pts K (Ad ds n l) w:=by
 subst hkp
 unfold Gr at h
 unfold VB wpOp
 cases ho:ops[i]? with
 |none=>simp[ho] at h
 |some o=>
  simp only[ho] at h
  have e:EV ops i=o:=by simp[EV,ho]
  rw[e] at hr
  simp only[CF,h,if_true]
  exact .inl hr
theorem Rg{n:Nat}{l:Fr}{w:World}{rest:List Nat}{i:Nat}(h:Gr ops n l i=true)(hr:(EV ops i).wp P (Ad ds n l) w (wpOps P ops Q rest) Q):wpOps P ops Q (i::rest) (Ad ds n l) w:=by
 rw[wpOps_cons]
 unfold Gr at h
 unfold wpOp
 cases ho:ops[i]? with
 |none=>simp[ho] at h
 |some o=>
  simp only[ho] at h
  have e:EV ops i=o:=by simp[EV,ho]
  rw[e] at hr
  simp only[CF,h,if_true]
  exact .inl hr
def lU(ops:Array Oper)(n:Nat)(l:Fr)(i:Nat):Option (Option Nat):=
 match ops[i]? with
 |none=>none
 |some o=>bif Region.wanted o (fy ops n l) then none else some o.dst
theorem MB{n:Nat}{l l':Fr}{w:World}{pts:List Pt}{i:Nat}{d:Option Nat}{K:List Pt→Act→World→Prop}(kp:List Pt)(h:lU ops n l i=some d)(hkp:CK ops i pts=kp)(hp:EJ n l d undef=some l')
 (hc:BV w kp)(hr:K kp (Ad ds n l') w):VB P ops Q i pts K (Ad ds n l) w:=by
 subst hkp
 unfold lU at h
 unfold VB wpOp
 cases ho:ops[i]? with
 |none=>simp[ho] at h
 |some o=>
  simp only[ho] at h
  cases hw:Region.wanted o (fy ops n l) with
  |true=>simp[hw] at h
  |false=>
   simp only[hw,cond_false,Option.some.injEq] at h
   simp only[CF,hw,Bool.false_eq_true,if_false]
   rw[h,D7 hp]
   exact⟨hc,hr⟩
structure PO (P:Program) (ops:Array Oper) (Q:Exit→Act→World→Prop) (is:List Nat) (a:Act) (w:World):Prop where
 out:wpOps P ops Q is a w
structure OP (P:Program) (o:Oper) (a:Act) (w:World) (N:Act→World→Prop) (Q:Exit→Act→World→Prop):Prop where
 out:o.wp P a w N Q
theorem EY{n:Nat}{w:World}{rest:List Nat}(b:List Ent){l l':Fr}{pts':List Pt}{eqs:List (Value×Value)}(h:E5 P ops n l b=some (l',pts',eqs))(he:G3 eqs)(hc:BV w pts')(hr:PO P ops Q rest (Ad ds n l') w):PO P ops Q (b.map (·.i)++rest) (Ad ds n l) w:=⟨NB b h he hc hr.out⟩
theorem IV{n:Nat}{rest:List Nat}{w:World}{l:Fr}{i:Nat}(d:Nat)(v:Value)(h:PC ops n l i d=true)(hrun:(execOp (fe n l) (EV ops i)).run P w= .ok (.value v) w)(hr:PO P ops Q rest (Ad ds n ((d,v)::l)) w):PO P ops Q (i::rest) (Ad ds n l) w:=⟨Rf d v h hrun hr.out⟩
theorem MC{n:Nat}{l:Fr}{w:World}{rest:List Nat}{i:Nat}(h:Gr ops n l i=true)(hr:OP P (EV ops i) (Ad ds n l) w (PO P ops Q rest) Q):PO P ops Q (i::rest) (Ad ds n l) w:=⟨Rg h (Oper.wp_mono (fun _ _ h=>h.out) hr.out)⟩
theorem PD{n:Nat}{l:Fr}{w:World}{pts:List Pt}{i:Nat}{K:List Pt→Act→World→Prop}(kp:List Pt)(h:Gr ops n l i=true)(hkp:CK ops i pts=kp)(hr:OP P (EV ops i) (Ad ds n l) w (fun a' w'=>BV w' kp∧K kp a' w') Q):VB P ops Q i pts K (Ad ds n l) w:=VC kp h hkp hr.out
section
variable {g w : World} {L : List AB} {n : Nat} {l : Fr} {o : Oper} {N : Act → World → Prop}
theorem NC{d:Nat}(V:Nat→Value)(O:Nat→Obj)(hr: ∀r,Jw P (execOp (fe n l) o) r=some (.value (V r),O r))(hd:o.dst=some d)(hn:Nat.blt d n=true)(hs:sat g w L)
 (k: ∀r w',sat g w' (pt r (O r)::L)→N (Ad ds n ((d,V r)::l)) w'):OP P o (Ad ds n l) w N Q:=by
 refine⟨?_⟩
 unfold Oper.wp
 rw[An,XA _ (hr _),Oper.upon_value,hd,CE (by rw[BJ] at hn;simpa using hn)]
 exact k _ _ (CN hs _)
theorem Bc{b:Nat}{cs cs':List Value}{t:TypeId}(ks:List (Nat×Value))(hr:IR P (execOp (fe n l) o)=some (.skip,ks.map fun q=>((⟨b,q.1,none⟩:Addr),q.2)))(hd:o.dst=none)
 (hk: ∀q∈ks,q.1<cs.length∧q.2.oneCell'=true)(hcs:CL cs ks=cs')(hs:sat g w (Cl b cs t::L))(k: ∀w',sat g w' (Cl b cs' t::L)→N (Ad ds n l) w'):OP P o (Ad ds n l) w N Q:=by
 refine⟨?_⟩
 obtain⟨w',hw,hs'⟩:=XB _ hr hs hk
 unfold Oper.wp
 rw[An,hw,Oper.upon_skip,hd]
 rw[hcs] at hs'
 exact k w' hs'
def D8(o:Oper)(n:Nat)(l:Fr):Option (Option Nat×FuncId×List Value):=
 match o.op with
 | .call {callee:= .value x,args,.. }=>match fe n l x with
  | .func (.func f) first captured=>some (o.dst,f,first.toList++args.toList.map (fe n l)++captured.toList)
  |_=>none
 |_=>none
theorem PE{d:Option Nat}{f:FuncId}{args:List Value}(h:D8 o n l=some (d,f,args))(hcf: ∀a w,(callFunc f a).run P w= .ok (.enter f a) w)(w:World):
  (execOp (fe n l) o).run P w= .ok (.enter f args.toArray) w∧o.dst=d:=by
 obtain⟨dst,op,ty,pos,aft,gd⟩:=o
 unfold D8 at h
 dsimp only at h
 split at h
 · rename_i x xs tys
   split at h
   · rename_i f' first captured hx
     simp only[Option.some.injEq,Prod.mk.injEq] at h
     obtain⟨rfl,rfl,rfl⟩:=h
     refine⟨?_,rfl⟩
     have:(execOp (fe n l) {dst:=dst,op:= .call {callee:= .value x,args:=xs,argTypes:=tys},type:=ty,pos:=pos,after:=aft,guard:=gd})=callFunc f' ((first++xs.map (fe n l))++captured):=by
      simp only[execOp,resolve,hx,Deferred.ofValue]
      rfl
     rw[this,hcf]
     congr 2
     apply Array.ext'
     simp
   · cases h
 · cases h
theorem TS{d:Option Nat}{f:FuncId}{args:List Value}{Pre F:List AB}{Post:Value→List AB→Prop}(h:D8 o n l=some (d,f,args))(hcf: ∀a w,(callFunc f a).run P w= .ok (.enter f a) w)
 (hT:HT P f args Pre Post)(hs:sat g w (Pre++F))(k: ∀v K w',Post v K→sat g w' (K++F)→ ∃l',EJ n l d v=some l'∧N (Ad ds n l') w'):OP P o (Ad ds n l) w N Q:=by
 refine⟨?_⟩
 obtain⟨hr,hd⟩:=PE h hcf w
 unfold Oper.wp
 rw[An,hr,Oper.upon_enter]
 refine(hT g w F hs).mono ?_
 rintro e w' ⟨v,K,rfl,hP,hs'⟩
 obtain⟨l',hl,hN⟩:=k v K w' hP hs'
 show N ((Ad ds n l).put o.dst v) w'
 rw[hd,D7 hl]
 exact hN
end
end
def yB:Code→Nat→Code
 | .seq a _,0=>a
 | .seq _ b,_=>b
 | .cond _ a _,0=>a
 | .cond _ _ b,_=>b
 | .block _ b,_=>b
 | .loop b,_=>b
 | .rangeFunc _ _ _ b,0=>b
 | .rangeFunc _ _ s _,_=>s
 | .scope b,_=>b
 |_,_=> .skip
def lV:Code→List Nat→Code
 |c,[]=>c
 |c,i::p=>lV (yB c i) p
def CA(f:Func)(p:List Nat):Code:=lV (f.body.getD .skip) p
def RA(f:Func)(p:List Nat):Array Oper:=match CA f p with | .region _ ops _=>ops|_=> #[]
section
variable {P : Program} {Q : Exit → Act → World → Prop} {a : Act} {w : World} {c : Code}
end
def Cg:List Value→Nat→Fr
 | [],_=> []
 |v::r,k=>(k,v)::Cg r (k+1)
theorem PF(args:List Value): ∀k j,lk (Cg args k) j=if k≤j∧j<k+args.length then args.getD (j-k) undef else undef:=by
 induction args with
 |nil=>intro k j;simp[Cg,lk]
 |cons v r ih=>
  intro k j
  rw[Cg,HK,ih]
  by_cases hk:k=j
  · subst hk;simp
  · by_cases h1:k+1≤j∧j<k+1+r.length
    · rw[if_neg hk,if_pos h1,if_pos (by simp;omega)]
      obtain⟨m,hm⟩: ∃m,j-k=m+1:=⟨j-k-1,by omega⟩
      rw[hm]
      simp
      congr 2
      omega
    · rw[if_neg hk,if_neg h1,if_neg (by simp;omega)]
theorem Jd(args:List Value)(n:Nat)(h:args.length≤n):({tmps:=args.toArray++Array.replicate (n-args.toArray.size) undef,defers:= []}:Act)=mk n (Cg args 0):=by
 unfold mk Ad
 congr 1
 apply Array.ext'
 apply List.ext_getElem?
 intro j
 simp only[Array.toList_append,Array.toList_replicate,List.size_toArray,List.getElem?_append,List.getElem?_map,List.getElem?_replicate]
 by_cases hj:j<args.length
 · have:j<n:=by omega
   simp[hj,this,PF,List.getD]
 · by_cases hn:j<n
   · have:j-args.length<n-args.length:=by omega
     simp[hj,hn,this,PF]
   · have: ¬j-args.length<n-args.length:=by omega
     simp[hj,hn,this]
def VD(ρ:Operand→Value):List ResultVar→Sem (List Value)
 | []=>pure []
 | .tmp t::r=>do pure (ρ (.tmp t)::(←VD ρ r))
 | .cell x ty::r=>do
  let v←loadVar ty (←asAddr (ρ (.tmp x)))
  pure (v::(←VD ρ r))
def Rh:List Value→Value
 | [x]=>x
 |vs=> .tuple vs.toArray
theorem Jy(fn:Func)(a:Act):results fn a.tmps=(do let vs←VD a.eval fn.results.toList;pure (Rh vs)):=by
 have hl: ∀rs:List ResultVar,(rs.mapM fun(r:ResultVar)=>(match r with
   | .tmp t=>pure (a.tmps.getD t undef)
   | .cell x ty=>do loadVar ty (←asAddr (a.tmps.getD x undef)):Sem Value))=VD a.eval rs:=by
  intro rs
  induction rs with
  |nil=>rfl
  |cons r rs ih=>
   rw[List.mapM_cons,ih]
   cases r with
   |tmp t=>rfl
   |cell x ty=>
    simp only[VD,bind_assoc]
    rfl
 unfold results
 rw[Array.mapM_eq_mapM_toList]
 rw[map_eq_pure_bind]
 rw[bind_assoc]
 have h2:=hl fn.results.toList
 rw[←h2]
 congr 1
 funext vs
 rw[pure_bind]
 cases vs with
 |nil=>rfl
 |cons x r=>
  cases r with
  |nil=>rfl
  |cons y r=>simp[Rh]
section
variable {P : Program} {f : FuncId} {fn : Func} {args : List Value} {Pre : List AB} {Post : Value → List AB → Prop}
def VE(fn:Func)(n:Nat)(l:Fr):Sem Value:=do
 let vs←VD (fe n l) fn.results.toList
 pure (Rh vs)
end
end Go.Proofs.YtcgkoffnknpgjaaGreatDoor
