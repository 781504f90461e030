/-
  The engine of my walks: frames as logs of writes, code named by its place, batches of operations reckoned by the kernel, and one rule for each kind of operation that acts.
-/
import Derived.Test.YtcgkoffnknpgjaaGreatDoorOrd
namespace Go.Proofs.YtcgkoffnknpgjaaGreatDoor
set_option linter.unusedVariables false
set_option linter.unusedSimpArgs false
abbrev Fr:=List (Nat×Value)
def lk:Fr→Nat→Value
 | [],_=>undef
 |(j,v)::r,k=>bif Nat.beq j k then v else lk r k
def mkd(ds:List Deferred)(n:Nat)(l:Fr):Act:= {tmps:=((List.range n).map (lk l)).toArray,defers:=ds}
abbrev mk(n:Nat)(l:Fr):Act:=mkd [] n l
variable {ds : List Deferred}
def fe(n:Nat)(l:Fr):Operand→Value
 | .tmp t=>bif Nat.blt t n then lk l t else undef
 | .const v=>v
 | .global g=> .pointer (some ⟨g,0,none⟩)
 | .func f=> .func (.func f) #[] #[]
theorem nat_beq(a b:Nat):Nat.beq a b=decide (a=b):=by
 cases h:Nat.beq a b with
 |true=>simp[Nat.eq_of_beq_eq_true h]
 |false=>simp[Nat.ne_of_beq_eq_false h]
theorem nat_blt(a b:Nat):Nat.blt a b=decide (a<b):=by
 unfold Nat.blt
 cases h:Nat.ble (a+1) b with
 |true=>simp;have:=Nat.le_of_ble_eq_true h;omega
 |false=>
  simp
  rcases Nat.lt_or_ge a b with h1|h1
  · have:=Nat.ble_eq_true_of_le (show a+1≤b from h1)
    rw[h] at this
    cases this
  · exact h1
theorem lk_cons(j:Nat)(v:Value)(r:Fr)(k:Nat):lk ((j,v)::r) k=if j=k then v else lk r k:=by
 simp[lk,nat_beq,cond_eq_ite]
theorem get_mk(n:Nat)(l:Fr)(k:Nat):(mkd ds n l).tmps[k]? =if k<n then some (lk l k) else none:=by
 by_cases h:k<n<;>simp[mkd,h]
theorem eval_mk(n:Nat)(l:Fr):(mkd ds n l).eval=fe n l:=by
 funext x
 cases x with
 |tmp t=>
  simp only[Act.eval,fe,nat_blt]
  rw[Array.getD_eq_getD_getElem?,get_mk]
  by_cases h:t<n<;>simp[h]
 |_=>rfl
theorem put_mk{n:Nat}{l:Fr}{d:Nat}{v:Value}(h:d<n):(mkd ds n l).put (some d) v=mkd ds n ((d,v)::l):=by
 simp only[Act.put,mkd,Act.mk.injEq,and_true]
 apply Array.ext'
 rw[Array.toList_setIfInBounds]
 apply List.ext_getElem?
 intro k
 rw[List.getElem?_set]
 by_cases hk:k<n
 · by_cases hd:d=k
   · subst hd;simp[hk,lk_cons]
   · simp[hk,hd,lk_cons]
 · have:d≠k:=by omega
   simp[this,hk]
theorem mk_again{n:Nat}{l:Fr}{k:Nat}{v:Value}(h:lk l k=v):mkd ds n l=mkd ds n ((k,v)::l):=by
 unfold mkd
 congr 3
 funext j
 rw[lk_cons]
 split
 · rename_i e;rw[←e,h]
 · rfl
def fy(ops:Array Oper)(n:Nat)(l:Fr)(j:Nat):Option Bool:=
 match (ops[j]?).bind (·.dst) with
 |some t=>bif Nat.blt t n then (match lk l t with | .bool b=>some b|_=>none) else none
 |none=>none
theorem yielded_mk(ops:Array Oper)(n:Nat)(l:Fr):yielded ops (mkd ds n l).tmps=fy ops n l:=by
 funext j
 unfold yielded fy
 cases h:(ops[j]?).bind (·.dst) with
 |none=>rfl
 |some t=>
  simp only[Option.bind_some,get_mk,nat_blt,cond_eq_ite,decide_eq_true_eq]
  by_cases ht:t<n
  · simp only[ht,if_true]
    generalize lk l t=v
    cases v<;>rfl
  · simp[ht]
def ansL{α:Type}(P:Program):Sem α→List Value→Option (α×List (Addr×Value))
 | .pure a,[]=>some (a,[])
 | .load _ a k,v::vs=>match ansL P (k v) vs with
  |some (x,ls)=>some (x,(a,v)::ls)
  |none=>none
 | .program k,vs=>ansL P (k P) vs
 | .mark _ k,vs=>ansL P k vs
 |_,_=>none
theorem ansL_run{α:Type}{P:Program}(s:Sem α): ∀ {vs:List Value} {x:α} {ls:List (Addr×Value)} {w:World},ansL P s vs=some (x,ls)→(∀q∈ls,w.cell? q.1=some q.2)→s.run P w= .ok x w:=by
 induction s with
 |pure a=>
  intro vs x ls w h _
  cases vs with
  |nil=>simp only[ansL,Option.some.injEq,Prod.mk.injEq] at h;rw[h.1];rfl
  |cons=>simp[ansL] at h
 |load m a k ih=>
  intro vs x ls w h hl
  cases vs with
  |nil=>simp[ansL] at h
  |cons v vs=>
   simp only[ansL] at h
   split at h
   · rename_i x' ls' e
     simp only[Option.some.injEq,Prod.mk.injEq] at h
     obtain⟨rfl,rfl⟩:=h
     have h1:=hl (a,v) (by simp)
     simp only[Sem.run,h1]
     exact ih v e (fun q hq=>hl q (by simp[hq]))
   · cases h
 |program k ih=>intro vs x ls w h hl;simp only[ansL] at h;simp only[Sem.run];exact ih P h hl
 |mark m k ih=>intro vs x ls w h hl;simp only[ansL] at h;simp only[Sem.run];exact ih h hl
 |_=>intro vs x ls w h _;simp[ansL] at h
def ansN{α:Type}(P:Program):Sem α→Nat→Option (α×Obj)
 | .new o k,r=>match ansL P (k r) [] with
  |some (x,_)=>some (x,o)
  |none=>none
 | .program k,r=>ansN P (k P) r
 | .mark _ k,r=>ansN P k r
 |_,_=>none
theorem ansL_nil{α:Type}{P:Program}(s:Sem α): ∀ {x:α} {ls:List (Addr×Value)},ansL P s []=some (x,ls)→ls= []:=by
 induction s with
 |pure a=>intro x ls h;simp only[ansL,Option.some.injEq,Prod.mk.injEq] at h;exact h.2.symm
 |program k ih=>intro x ls h;exact ih P h
 |mark m k ih=>intro x ls h;exact ih h
 |_=>intro x ls h;simp[ansL] at h
theorem ansN_run{α:Type}{P:Program}(s:Sem α): ∀ {x:α} {o:Obj} {w:World},ansN P s w.heap.size=some (x,o)→s.run P w= .ok x (w.alloc o):=by
 induction s with
 |new o k _=>
  intro x o' w h
  simp only[ansN] at h
  split at h
  · rename_i x' ls e
    simp only[Option.some.injEq,Prod.mk.injEq] at h
    obtain⟨rfl,rfl⟩:=h
    simp only[Sem.run]
    have h0:=ansL_nil _ e
    subst h0
    exact ansL_run (w:=w.alloc o) _ e (by simp)
  · cases h
 |program k ih=>intro x o w h;simp only[ansN] at h;simp only[Sem.run];exact ih P h
 |mark m k ih=>intro x o w h;simp only[ansN] at h;simp only[Sem.run];exact ih h
 |_=>intro x o w h;simp[ansN] at h
def ansS{α:Type}(P:Program):Sem α→Option (α×List (Addr×Value))
 | .pure a=>some (a,[])
 | .store _ a v k=>match ansS P k with
  |some (x,ls)=>some (x,(a,v)::ls)
  |none=>none
 | .program k=>ansS P (k P)
 | .mark _ k=>ansS P k
 |_=>none
def setL(cs:List Value):List (Nat×Value)→List Value
 | []=>cs
 |(k,v)::r=>setL (cs.set k v) r
theorem ansS_run{α:Type}{P:Program}{g:World}{b:Nat}{t:TypeId}{L:List Assn}(s:Sem α): ∀ {x:α} {ks:List (Nat×Value)} {w:World} {cs:List Value},
  ansS P s=some (x,ks.map fun q=>((⟨b,q.1,none⟩:Addr),q.2))→sat g w (Cl b cs t::L)→(∀q∈ks,q.1<cs.length∧q.2.oneCell'=true)→
  ∃w',s.run P w= .ok x w'∧sat g w' (Cl b (setL cs ks) t::L):=by
 induction s with
 |pure a=>
  intro x ks w cs h hs _
  simp only[ansS,Option.some.injEq,Prod.mk.injEq] at h
  have:ks= []:=by have:=h.2.symm;simpa using this
  subst this
  exact⟨w,by rw[←h.1];rfl,hs⟩
 |store m a v k ih=>
  intro x ks w cs h hs hk
  simp only[ansS] at h
  split at h
  · rename_i x' ls' e
    simp only[Option.some.injEq,Prod.mk.injEq] at h
    obtain⟨rfl,hl⟩:=h
    cases ks with
    |nil=>simp at hl
    |cons q ks=>
     simp only[List.map_cons,List.cons.injEq,Prod.mk.injEq] at hl
     obtain⟨⟨rfl,rfl⟩,rfl⟩:=hl
     have hq:=hk q (by simp)
     have hcell:=sat_cell hs 0 rfl (List.getElem?_eq_getElem hq.1)
     have hb:w.heap[b]? =some (.cells cs.toArray t (0,0)):=sat_at (i:=0) hs rfl
     have hfr:w.frozen? ⟨b,q.1,none⟩=false:=by simp[World.frozen?,hb]
     obtain⟨w',hw',hs'⟩:=ih e (sat_setCell (k:=q.1) (v:=q.2) hs) (fun p hp=>by
      have:=hk p (by simp[hp])
      simpa using this)
     refine⟨w',?_,hs'⟩
     rw[←hw']
     have h1:=hq.2
     cases hv:q.2<;>rw[hv] at h1<;>first|(exact Bool.noConfusion h1)|(simp[Sem.run,hcell,hfr])
  · cases h
 |program k ih=>intro x ks w cs h hs hk;simp only[ansS] at h;simp only[Sem.run];exact ih P h hs hk
 |mark m k ih=>intro x ks w cs h hs hk;simp only[ansS] at h;simp only[Sem.run];exact ih h hs hk
 |_=>intro x ks w cs h _ _;simp[ansS] at h
def AllE:List (Value×Value)→Prop
 | []=>True
 |(u,v)::r=>u=v∧AllE r
def chk1(P:Program)(ops:Array Oper)(n:Nat)(l:Fr)(i:Nat)(vs:List Value):Option (Option Nat×Value×List (Addr×Value)):=
 match ops[i]? with
 |none=>none
 |some o=>
  bif Region.wanted o (fy ops n l) then
   (bif floatB o.op then
    (match ansL P (execOp (fe n l) o) vs with
    |some (.value v,ls)=>some (o.dst,v,ls)
    |_=>none)
   else none)
  else some (o.dst,undef,[])
def putF(n:Nat)(l:Fr):Option Nat→Value→Option Fr
 |none,_=>some l
 |some d,v=>bif Nat.blt d n then some ((d,v)::l) else none
theorem putF_mk{n:Nat}{l l':Fr}{d:Option Nat}{v:Value}(h:putF n l d v=some l'):(mkd ds n l).put d v=mkd ds n l':=by
 cases d with
 |none=>simp only[putF,Option.some.injEq] at h;rw[←h];rfl
 |some d=>
  simp only[putF,nat_blt,cond_eq_ite,decide_eq_true_eq] at h
  split at h
  · rename_i hd
    simp only[Option.some.injEq] at h
    rw[←h,put_mk hd]
  · cases h
structure Ent where
 i:Nat
 vs:List Value:= []
 ov:Option Value:=none
def chkB(P:Program)(ops:Array Oper)(n:Nat):Fr→List Ent→Option (Fr×List Pt×List (Value×Value))
 |l,[]=>some (l,[],[])
 |l,e::r=>
  match chk1 P ops n l e.i e.vs with
  |none=>none
  |some (d,u,ls)=>
   match putF n l d (match e.ov with |some v=>v|none=>u) with
   |none=>none
   |some l1=>
    match chkB P ops n l1 r with
    |none=>none
    |some (l2,pts,eqs)=>some (l2,pts++ls.map (fun q=>(e.i,q.1,q.2)),match e.ov with |some v=>(u,v)::eqs|none=>eqs)
theorem chk1_spec{P:Program}{ops:Array Oper}{n:Nat}{l:Fr}{i:Nat}{vs:List Value}{d:Option Nat}{v:Value}{ls:List (Addr×Value)}(h:chk1 P ops n l i vs=some (d,v,ls)):
  ∃o,ops[i]? =some o∧o.dst=d∧(Region.wanted o (fy ops n l)=false∨floatB o.op=true)∧YieldsIf P ops (fun w'=>AllC w' (ls.map fun q=>(i,q.1,q.2))) o v (mkd ds n l):=by
 unfold chk1 at h
 cases ho:ops[i]? with
 |none=>simp[ho] at h
 |some o=>
  simp only[ho] at h
  refine⟨o,rfl,?_⟩
  cases hw:Region.wanted o (fy ops n l) with
  |false=>
   simp only[hw,cond_false,Option.some.injEq,Prod.mk.injEq] at h
   exact⟨h.1,.inl rfl,.inr ⟨by rw[yielded_mk];exact hw,h.2.1.symm⟩⟩
  |true=>
   simp only[hw,cond_true] at h
   cases hf:floatB o.op with
   |false=>simp[hf] at h
   |true=>
    simp only[hf,cond_true] at h
    split at h
    · rename_i v' ls' e
      simp only[Option.some.injEq,Prod.mk.injEq] at h
      obtain⟨h1,rfl,rfl⟩:=h
      refine⟨h1,.inr rfl,.inl ⟨by rw[yielded_mk];exact hw,fun w hall=> ?_⟩⟩
      rw[eval_mk]
      refine ansL_run _ e (fun q hq=> ?_)
      exact hall (i,q.1,q.2) (List.mem_map.2 ⟨q,hq,rfl⟩)
    · cases h
def fls:List Nat→Tr→Tr
 | [],t=>t
 |i::r,t=> .fl i (fls r t)
section
variable {P : Program} {ops : Array Oper} {Q : Exit → Act → World → Prop}
theorem yields_eqv{S:World→Prop}{o:Oper}{u v:Value}{a:Act}(h:YieldsIf P ops S o u a)(e:u=v):YieldsIf P ops S o v a:=e▸h
theorem draw_batch{n:Nat}{t:Tr}{w:World}(b:List Ent): ∀ {l l':Fr} {pts' pts:List Pt} {eqs:List (Value×Value)},chkB P ops n l b=some (l',pts',eqs)→AllE eqs→AllC w pts'→
  RW P ops Q t (pts'++pts) (mkd ds n l') w→RW P ops Q (fls (b.map (·.i)) t) pts (mkd ds n l) w:=by
 induction b with
 |nil=>
  intro l l' pts' pts eqs h _ _ hr
  simp only[chkB,Option.some.injEq,Prod.mk.injEq] at h
  obtain⟨rfl,rfl,_⟩:=h
  exact hr
 |cons e b ih=>
  intro l l' pts' pts eqs h he hc hr
  simp only[chkB] at h
  split at h
  · cases h
  · rename_i d u ls h1
    split at h
    · cases h
    · rename_i l1 h2
      split at h
      · cases h
      · rename_i l2 pts2 eqs2 h3
        simp only[Option.some.injEq,Prod.mk.injEq] at h
        obtain⟨rfl,rfl,he2⟩:=h
        obtain⟨o,ho,hd,_,hy⟩:=chk1_spec h1
        have hcl:AllC w (ls.map fun q=>(e.i,q.1,q.2)):=fun q hq=>hc q (List.mem_append_right _ hq)
        have hcr:AllC w pts2:=fun q hq=>hc q (List.mem_append_left _ hq)
        refine⟨o,(match e.ov with |some v=>v|none=>u),ls.map fun q=>(e.i,q.1,q.2),ho,?_,?_,hcl,?_⟩
        · intro q hq
          obtain⟨p,_,rfl⟩:=List.mem_map.1 hq
          rfl
        · cases hov:e.ov with
          |none=>exact hy
          |some v=>
           rw[hov] at he2
           rw[←he2] at he
           exact yields_eqv hy he.1
        · rw[hd,putF_mk h2]
          refine ih h3 ?_ hcr ?_
          · cases hov:e.ov with
            |none=>rw[hov] at he2;have he3:eqs2=eqs:=he2;rw[he3];exact he
            |some v=>rw[hov] at he2;rw[←he2] at he;exact he.2
          · rw[←List.append_assoc]
            exact hr
theorem plain_batch0{n:Nat}{w:World}{rest:List Nat}(b:List Ent): ∀ {l l':Fr} {pts':List Pt} {eqs:List (Value×Value)},chkB P ops n l b=some (l',pts',eqs)→AllE eqs→AllC w pts'→
  wpOps P ops Q rest (mkd ds n l') w→wpOps P ops Q (b.map (·.i)++rest) (mkd ds n l) w:=by
 induction b with
 |nil=>
  intro l l' pts' eqs h _ _ hr
  simp only[chkB,Option.some.injEq,Prod.mk.injEq] at h
  obtain⟨rfl,rfl,_⟩:=h
  exact hr
 |cons e b ih=>
  intro l l' pts' eqs h he hc hr
  simp only[chkB] at h
  split at h
  · cases h
  · rename_i d u ls h1
    split at h
    · cases h
    · rename_i l1 h2
      split at h
      · cases h
      · rename_i l2 pts2 eqs2 h3
        simp only[Option.some.injEq,Prod.mk.injEq] at h
        obtain⟨rfl,rfl,he2⟩:=h
        obtain⟨o,ho,hd,_,hy⟩:=chk1_spec h1
        have hcl:AllC w (ls.map fun q=>(e.i,q.1,q.2)):=fun q hq=>hc q (List.mem_append_right _ hq)
        have hcr:AllC w pts2:=fun q hq=>hc q (List.mem_append_left _ hq)
        rw[List.map_cons,List.cons_append,wpOps_cons]
        have hy':YieldsIf P ops (fun w'=>AllC w' (ls.map fun q=>(e.i,q.1,q.2))) o (match e.ov with |some v=>v|none=>u) (mkd ds n l):=by
         cases hov:e.ov with
         |none=>exact hy
         |some v=>
          rw[hov] at he2
          rw[←he2] at he
          exact yields_eqv hy he.1
        refine hy'.wpOp ho hcl ?_
        rw[hd,putF_mk h2]
        refine ih h3 ?_ hcr hr
        cases hov:e.ov with
        |none=>rw[hov] at he2;have he3:eqs2=eqs:=he2;rw[he3];exact he
        |some v=>rw[hov] at he2;rw[←he2] at he;exact he.2
def chkW(ops:Array Oper)(n:Nat)(l:Fr)(i d:Nat):Bool:=
 match ops[i]? with
 |none=>false
 |some o=>floatB o.op&&Region.wanted o (fy ops n l)&&(match o.dst with |some d'=>Nat.beq d' d|none=>false)&&Nat.blt d n
def opA(ops:Array Oper)(i:Nat):Oper:=(ops[i]?).getD default
theorem chkW_spec{n:Nat}{l:Fr}{i d:Nat}(h:chkW ops n l i d=true):ops[i]? =some (opA ops i)∧Region.wanted (opA ops i) (fy ops n l)=true∧(opA ops i).dst=some d∧d<n:=by
 unfold chkW at h
 cases ho:ops[i]? with
 |none=>simp[ho] at h
 |some o=>
  simp only[ho,Bool.and_eq_true,nat_blt,decide_eq_true_eq] at h
  have e:opA ops i=o:=by simp[opA,ho]
  rw[e]
  refine⟨rfl,h.1.1.2,?_,h.2⟩
  have h2:=h.1.2
  cases hd:o.dst with
  |none=>rw[hd] at h2;cases h2
  |some d'=>rw[hd] at h2;rw[Nat.eq_of_beq_eq_true h2]
theorem draw_law{n:Nat}{t:Tr}{w:World}{l:Fr}{pts:List Pt}{i:Nat}(d:Nat)(v:Value)(ls:List (Addr×Value))(h:chkW ops n l i d=true)
 (hrun: ∀w',(∀q∈ls,w'.cell? q.1=some q.2)→(execOp (fe n l) (opA ops i)).run P w'= .ok (.value v) w')(hc: ∀q∈ls,w.cell? q.1=some q.2)
 (hr:RW P ops Q t (ls.map (fun q=>(i,q.1,q.2))++pts) (mkd ds n ((d,v)::l)) w):RW P ops Q (.fl i t) pts (mkd ds n l) w:=by
 obtain⟨ho,hw,hd,hn⟩:=chkW_spec h
 refine⟨opA ops i,v,ls.map fun q=>(i,q.1,q.2),ho,?_,.inl ⟨by rw[yielded_mk];exact hw,fun w' hall=> ?_⟩,?_,?_⟩
 · intro q hq
   obtain⟨p,_,rfl⟩:=List.mem_map.1 hq
   rfl
 · rw[eval_mk]
   exact hrun w' (fun q hq=>hall (i,q.1,q.2) (List.mem_map.2 ⟨q,hq,rfl⟩))
 · intro q hq
   obtain⟨p,hp,rfl⟩:=List.mem_map.1 hq
   exact hc p hp
 · rw[hd,put_mk hn]
   exact hr
theorem plain_law0{n:Nat}{rest:List Nat}{w:World}{l:Fr}{i:Nat}(d:Nat)(v:Value)(h:chkW ops n l i d=true)
 (hrun:(execOp (fe n l) (opA ops i)).run P w= .ok (.value v) w)(hr:wpOps P ops Q rest (mkd ds n ((d,v)::l)) w):wpOps P ops Q (i::rest) (mkd ds n l) w:=by
 obtain⟨ho,hw,hd,hn⟩:=chkW_spec h
 rw[wpOps_cons]
 unfold wpOp
 rw[ho]
 simp only[yielded_mk,hw,if_true]
 refine .inl ?_
 unfold Oper.wp
 rw[eval_mk,hrun,Oper.upon_value,hd,put_mk hn]
 exact hr
def chkA(ops:Array Oper)(n:Nat)(l:Fr)(i:Nat):Bool:=
 match ops[i]? with
 |none=>false
 |some o=>Region.wanted o (fy ops n l)
theorem draw_act0{n:Nat}{l:Fr}{w:World}{pts:List Pt}{i:Nat}{K:List Pt→Act→World→Prop}(kp:List Pt)(h:chkA ops n l i=true)(hkp:keepP ops i pts=kp)
 (hr:(opA ops i).wp P (mkd ds n l) w (fun a' w'=>AllC w' kp∧K kp a' w') Q):anc P ops Q i pts K (mkd ds n l) w:=by
 subst hkp
 unfold chkA at h
 unfold anc wpOp
 cases ho:ops[i]? with
 |none=>simp[ho] at h
 |some o=>
  simp only[ho] at h
  have e:opA ops i=o:=by simp[opA,ho]
  rw[e] at hr
  simp only[yielded_mk,h,if_true]
  exact .inl hr
theorem plain_act0{n:Nat}{l:Fr}{w:World}{rest:List Nat}{i:Nat}(h:chkA ops n l i=true)(hr:(opA ops i).wp P (mkd ds n l) w (wpOps P ops Q rest) Q):wpOps P ops Q (i::rest) (mkd ds n l) w:=by
 rw[wpOps_cons]
 unfold chkA at h
 unfold wpOp
 cases ho:ops[i]? with
 |none=>simp[ho] at h
 |some o=>
  simp only[ho] at h
  have e:opA ops i=o:=by simp[opA,ho]
  rw[e] at hr
  simp only[yielded_mk,h,if_true]
  exact .inl hr
def chkN(ops:Array Oper)(n:Nat)(l:Fr)(i:Nat):Option (Option Nat):=
 match ops[i]? with
 |none=>none
 |some o=>bif Region.wanted o (fy ops n l) then none else some o.dst
theorem draw_skip{n:Nat}{l l':Fr}{w:World}{pts:List Pt}{i:Nat}{d:Option Nat}{K:List Pt→Act→World→Prop}(kp:List Pt)(h:chkN ops n l i=some d)(hkp:keepP ops i pts=kp)(hp:putF n l d undef=some l')
 (hc:AllC w kp)(hr:K kp (mkd ds n l') w):anc P ops Q i pts K (mkd ds n l) w:=by
 subst hkp
 unfold chkN at h
 unfold anc wpOp
 cases ho:ops[i]? with
 |none=>simp[ho] at h
 |some o=>
  simp only[ho] at h
  cases hw:Region.wanted o (fy ops n l) with
  |true=>simp[hw] at h
  |false=>
   simp only[hw,cond_false,Option.some.injEq] at h
   simp only[yielded_mk,hw,Bool.false_eq_true,if_false]
   rw[h,putF_mk hp]
   exact⟨hc,hr⟩
structure PO (P:Program) (ops:Array Oper) (Q:Exit→Act→World→Prop) (is:List Nat) (a:Act) (w:World):Prop where
 out:wpOps P ops Q is a w
structure OP (P:Program) (o:Oper) (a:Act) (w:World) (N:Act→World→Prop) (Q:Exit→Act→World→Prop):Prop where
 out:o.wp P a w N Q
theorem plain_batch{n:Nat}{w:World}{rest:List Nat}(b:List Ent){l l':Fr}{pts':List Pt}{eqs:List (Value×Value)}(h:chkB P ops n l b=some (l',pts',eqs))(he:AllE eqs)(hc:AllC w pts')(hr:PO P ops Q rest (mkd ds n l') w):PO P ops Q (b.map (·.i)++rest) (mkd ds n l) w:=⟨plain_batch0 b h he hc hr.out⟩
theorem plain_law{n:Nat}{rest:List Nat}{w:World}{l:Fr}{i:Nat}(d:Nat)(v:Value)(h:chkW ops n l i d=true)(hrun:(execOp (fe n l) (opA ops i)).run P w= .ok (.value v) w)(hr:PO P ops Q rest (mkd ds n ((d,v)::l)) w):PO P ops Q (i::rest) (mkd ds n l) w:=⟨plain_law0 d v h hrun hr.out⟩
theorem plain_act{n:Nat}{l:Fr}{w:World}{rest:List Nat}{i:Nat}(h:chkA ops n l i=true)(hr:OP P (opA ops i) (mkd ds n l) w (PO P ops Q rest) Q):PO P ops Q (i::rest) (mkd ds n l) w:=⟨plain_act0 h (Oper.wp_mono (fun _ _ h=>h.out) hr.out)⟩
theorem draw_act{n:Nat}{l:Fr}{w:World}{pts:List Pt}{i:Nat}{K:List Pt→Act→World→Prop}(kp:List Pt)(h:chkA ops n l i=true)(hkp:keepP ops i pts=kp)(hr:OP P (opA ops i) (mkd ds n l) w (fun a' w'=>AllC w' kp∧K kp a' w') Q):anc P ops Q i pts K (mkd ds n l) w:=draw_act0 kp h hkp hr.out
section
variable {g w : World} {L : List Assn} {n : Nat} {l : Fr} {o : Oper} {N : Act → World → Prop}
theorem an_new{d:Nat}(V:Nat→Value)(O:Nat→Obj)(hr: ∀r,ansN P (execOp (fe n l) o) r=some (.value (V r),O r))(hd:o.dst=some d)(hn:Nat.blt d n=true)(hs:sat g w L)
 (k: ∀r w',sat g w' (pt r (O r)::L)→N (mkd ds n ((d,V r)::l)) w'):OP P o (mkd ds n l) w N Q:=by
 refine⟨?_⟩
 unfold Oper.wp
 rw[eval_mk,ansN_run _ (hr _),Oper.upon_value,hd,put_mk (by rw[nat_blt] at hn;simpa using hn)]
 exact k _ _ (sat_alloc hs _)
theorem an_store{b:Nat}{cs cs':List Value}{t:TypeId}(ks:List (Nat×Value))(hr:ansS P (execOp (fe n l) o)=some (.skip,ks.map fun q=>((⟨b,q.1,none⟩:Addr),q.2)))(hd:o.dst=none)
 (hk: ∀q∈ks,q.1<cs.length∧q.2.oneCell'=true)(hcs:setL cs ks=cs')(hs:sat g w (Cl b cs t::L))(k: ∀w',sat g w' (Cl b cs' t::L)→N (mkd ds n l) w'):OP P o (mkd ds n l) w N Q:=by
 refine⟨?_⟩
 obtain⟨w',hw,hs'⟩:=ansS_run _ hr hs hk
 unfold Oper.wp
 rw[eval_mk,hw,Oper.upon_skip,hd]
 rw[hcs] at hs'
 exact k w' hs'
def chkCall(o:Oper)(n:Nat)(l:Fr):Option (Option Nat×FuncId×List Value):=
 match o.op with
 | .call {callee:= .value x,args,.. }=>match fe n l x with
  | .func (.func f) first captured=>some (o.dst,f,first.toList++args.toList.map (fe n l)++captured.toList)
  |_=>none
 |_=>none
theorem run_call{d:Option Nat}{f:FuncId}{args:List Value}(h:chkCall o n l=some (d,f,args))(hcf: ∀a w,(callFunc f a).run P w= .ok (.enter f a) w)(w:World):
  (execOp (fe n l) o).run P w= .ok (.enter f args.toArray) w∧o.dst=d:=by
 obtain⟨dst,op,ty,pos,aft,gd⟩:=o
 unfold chkCall at h
 dsimp only at h
 split at h
 · rename_i x xs tys
   split at h
   · rename_i f' first captured hx
     simp only[Option.some.injEq,Prod.mk.injEq] at h
     obtain⟨rfl,rfl,rfl⟩:=h
     refine⟨?_,rfl⟩
     have:(execOp (fe n l) {dst:=dst,op:= .call {callee:= .value x,args:=xs,argTypes:=tys},type:=ty,pos:=pos,after:=aft,guard:=gd})=callFunc f' ((first++xs.map (fe n l))++captured):=by
      simp only[execOp,resolve,hx,Deferred.ofValue]
      rfl
     rw[this,hcf]
     congr 2
     apply Array.ext'
     simp
   · cases h
 · cases h
theorem an_call{d:Option Nat}{f:FuncId}{args:List Value}{Pre F:List Assn}{Post:Value→List Assn→Prop}(h:chkCall o n l=some (d,f,args))(hcf: ∀a w,(callFunc f a).run P w= .ok (.enter f a) w)
 (hT:HT P f args Pre Post)(hs:sat g w (Pre++F))(k: ∀v K w',Post v K→sat g w' (K++F)→ ∃l',putF n l d v=some l'∧N (mkd ds n l') w'):OP P o (mkd ds n l) w N Q:=by
 refine⟨?_⟩
 obtain⟨hr,hd⟩:=run_call h hcf w
 unfold Oper.wp
 rw[eval_mk,hr,Oper.upon_enter]
 refine(hT g w F hs).mono ?_
 rintro e w' ⟨v,K,rfl,hP,hs'⟩
 obtain⟨l',hl,hN⟩:=k v K w' hP hs'
 show N ((mkd ds n l).put o.dst v) w'
 rw[hd,putF_mk hl]
 exact hN
end
end
def sub1:Code→Nat→Code
 | .seq a _,0=>a
 | .seq _ b,_=>b
 | .cond _ a _,0=>a
 | .cond _ _ b,_=>b
 | .block _ b,_=>b
 | .loop b,_=>b
 | .rangeFunc _ _ _ b,0=>b
 | .rangeFunc _ _ s _,_=>s
 | .scope b,_=>b
 |_,_=> .skip
def nav:Code→List Nat→Code
 |c,[]=>c
 |c,i::p=>nav (sub1 c i) p
def CA(f:Func)(p:List Nat):Code:=nav (f.body.getD .skip) p
def RA(f:Func)(p:List Nat):Array Oper:=match CA f p with | .region _ ops _=>ops|_=> #[]
section
variable {P : Program} {Q : Exit → Act → World → Prop} {a : Act} {w : World} {c : Code}
end
def enumF:List Value→Nat→Fr
 | [],_=> []
 |v::r,k=>(k,v)::enumF r (k+1)
theorem lk_enumF(args:List Value): ∀k j,lk (enumF args k) j=if k≤j∧j<k+args.length then args.getD (j-k) undef else undef:=by
 induction args with
 |nil=>intro k j;simp[enumF,lk]
 |cons v r ih=>
  intro k j
  rw[enumF,lk_cons,ih]
  by_cases hk:k=j
  · subst hk;simp
  · by_cases h1:k+1≤j∧j<k+1+r.length
    · rw[if_neg hk,if_pos h1,if_pos (by simp;omega)]
      obtain⟨m,hm⟩: ∃m,j-k=m+1:=⟨j-k-1,by omega⟩
      rw[hm]
      simp
      congr 2
      omega
    · rw[if_neg hk,if_neg h1,if_neg (by simp;omega)]
theorem init_mk(args:List Value)(n:Nat)(h:args.length≤n):({tmps:=args.toArray++Array.replicate (n-args.toArray.size) undef,defers:= []}:Act)=mk n (enumF args 0):=by
 unfold mk mkd
 congr 1
 apply Array.ext'
 apply List.ext_getElem?
 intro j
 simp only[Array.toList_append,Array.toList_replicate,List.size_toArray,List.getElem?_append,List.getElem?_map,List.getElem?_replicate]
 by_cases hj:j<args.length
 · have:j<n:=by omega
   simp[hj,this,lk_enumF,List.getD]
 · by_cases hn:j<n
   · have:j-args.length<n-args.length:=by omega
     simp[hj,hn,this,lk_enumF]
   · have: ¬j-args.length<n-args.length:=by omega
     simp[hj,hn,this]
def resL(ρ:Operand→Value):List ResultVar→Sem (List Value)
 | []=>pure []
 | .tmp t::r=>do pure (ρ (.tmp t)::(←resL ρ r))
 | .cell x ty::r=>do
  let v←loadVar ty (←asAddr (ρ (.tmp x)))
  pure (v::(←resL ρ r))
def resOne:List Value→Value
 | [x]=>x
 |vs=> .tuple vs.toArray
theorem results_eq(fn:Func)(a:Act):results fn a.tmps=(do let vs←resL a.eval fn.results.toList;pure (resOne vs)):=by
 have hl: ∀rs:List ResultVar,(rs.mapM fun(r:ResultVar)=>(match r with
   | .tmp t=>pure (a.tmps.getD t undef)
   | .cell x ty=>do loadVar ty (←asAddr (a.tmps.getD x undef)):Sem Value))=resL a.eval rs:=by
  intro rs
  induction rs with
  |nil=>rfl
  |cons r rs ih=>
   rw[List.mapM_cons,ih]
   cases r with
   |tmp t=>rfl
   |cell x ty=>
    simp only[resL,bind_assoc]
    rfl
 unfold results
 rw[Array.mapM_eq_mapM_toList]
 rw[map_eq_pure_bind]
 rw[bind_assoc]
 have h2:=hl fn.results.toList
 rw[←h2]
 congr 1
 funext vs
 rw[pure_bind]
 cases vs with
 |nil=>rfl
 |cons x r=>
  cases r with
  |nil=>rfl
  |cons y r=>simp[resOne]
section
variable {P : Program} {f : FuncId} {fn : Func} {args : List Value} {Pre : List Assn} {Post : Value → List Assn → Prop}
def resF(fn:Func)(n:Nat)(l:Fr):Sem Value:=do
 let vs←resL (fe n l) fn.results.toList
 pure (resOne vs)
end
end Go.Proofs.YtcgkoffnknpgjaaGreatDoor
