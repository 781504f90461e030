/-
  Ranges over functions, and iterators, over states that the kernel runs. No program in sight.
-/
import Derived.Test.YtcgkoffnknpgjaaGreatDoorRn2x
import Derived.Test.YtcgkoffnknpgjaaGreatDoorRfax
namespace Go.Proofs.YtcgkoffnknpgjaaGreatDoor
set_option linter.unusedVariables false
set_option linter.unusedSimpArgs false
section
variable {r : Option Nat} {P : Program} {Q0 : Exit → Act → World → Prop} {ds : List Deferred} {n : Nat} {g w : World} {st : Sx} {L : List AB}
theorem cQ(h:Q0 .normal (Ad ds n st.l) w)(e:IP st=true:=by kernel_rfl):GS r P Q0 ds n st w:=by
 obtain⟨p,K,l⟩:=st
 unfold IP at e
 split at e
 · rename_i e1 e2
   simp only at e1 e2
   subst e1
   subst e2
   exact⟨h⟩
 · cases e
def mG(st:Sx):Bool:=match st.p,st.K with
 | .ou .ret,[]=>true
 |_,_=>false
theorem yI(h:Q0 .ret (Ad ds n st.l) w)(e:mG st=true:=by kernel_rfl):GS r P Q0 ds n st w:=by
 obtain⟨p,K,l⟩:=st
 unfold mG at e
 split at e
 · rename_i e1 e2
   simp only at e1 e2
   subst e1
   subst e2
   exact⟨h⟩
 · cases e
variable {Inv : Nat → List AB → Prop} {Ex : Code → Nat → List AB → Prop} {At : List AB} {i : Nat} {G : AB} {K : List AB}
theorem bU(hI:Inv (i+1) K)(h:sat g w (K++(At++ [G])))(e:IP st=true:=by kernel_rfl):GS r P (RB g Inv Ex At i G) ds n st w:=cQ ⟨K,hI,h⟩ e
theorem xS(hE:Ex .ret i K)(h:sat g w (K++ [G]))(e:mG st=true:=by kernel_rfl):GS r P (RB g Inv Ex At i G) ds n st w:=yI ⟨K,hE,h⟩ e
end
section
variable {P : Program} {Q0 Q1 : Exit → Act → World → Prop} {ds : List Deferred} {n : Nat} {g w : World} {st : Sx} {L : List AB}
theorem mH{f:FuncId}{fn:Func}{cap:List Value}{N:Nat}{xs:Nat→List Value}{At:List AB}(hf:P.funcs[f]? =some fn)(hn:fn.ntmps=n)
 (h: ∀(g w:World) (R:AB) (k:Nat) (J E:Nat→AB),
   (∀i,i<N→ ∀(w1:World) (G:List AB),sat g w1 (J i::At++G)→ ∀m,YieldAt (FW none) m P k (xs i).toArray w1 fun e w'=>(e= .returned (.bool true)∧sat g w' (J (i+1)::At++G))∨(e= .returned (.bool false)∧sat g w' (E i::G)))→
   sat g w (J 0::At++ [R])→GS none P (D6 0 P fn fun e w'=>(∃v,e= .returned v)∧(sat g w' (J N::At++ [R])∨ ∃i,i<N∧sat g w' [E i,R])) [] n ⟨.co (CA fn []),[],Cg (Value.func (.yield k) #[] #[]::cap) 0⟩ w)
 (hb:fn.body=some (CA fn []):=by kernel_rfl)(ha:Nat.ble (cap.length+1) n=true:=by kernel_rfl):IT P f cap N xs At:=
 PP n (fun k=>Cg (Value.func (.yield k) #[] #[]::cap) 0) hf hb hn ha (fun _=>rfl) fun g w R k J E hY h0=>(h g w R k J E hY h0).out
theorem yJ{f:FuncId}{fn:Func}{cap:List Value}{N:Nat}{xs:Nat→List Value}{A:Nat→AB}(hf:P.funcs[f]? =some fn)(hn:fn.ntmps=n)
 (h: ∀(g w:World) (R:AB) (k:Nat) (J E:Nat→AB),
   (∀i,i<N→ ∀(w1:World) (G:List AB),sat g w1 (J i::A (i+1)::G)→ ∀m,YieldAt (FW none) m P k (xs i).toArray w1 fun e w'=>(e= .returned (.bool true)∧sat g w' (J (i+1)::A (i+1)::G))∨(e= .returned (.bool false)∧sat g w' (E i::G)))→
   sat g w (J 0::A 0:: [R])→GS none P (D6 0 P fn fun e w'=>(∃v,e= .returned v)∧(sat g w' (J N::A N:: [R])∨ ∃i,i<N∧sat g w' [E i,R])) [] n ⟨.co (CA fn []),[],Cg (Value.func (.yield k) #[] #[]::cap) 0⟩ w)
 (hb:fn.body=some (CA fn []):=by kernel_rfl)(ha:Nat.ble (cap.length+1) n=true:=by kernel_rfl):cJ P f cap N xs A:=
 mF n (fun k=>Cg (Value.func (.yield k) #[] #[]::cap) 0) hf hb hn ha (fun _=>rfl) fun g w R k J E hY h0=>(h g w R k J E hY h0).out
def rgI(st:Sx):Nat:=match st.p with
 | .co (.region id _ _)=>id
 |_=>0
def yL(st:Sx):Array Oper:=match st.p with
 | .co (.region _ ops _)=>ops
 |_=> #[]
def tF(y:Nat)(st:Sx):Bool:=match st.p with
 | .co (.region _ ops false)=>Bi ops&&Nat.ble y ops.size
 |_=>false
theorem Wy(y:Nat)(h:GS none P (Exit.then (YP P (yL st) (KQ none P Q0 st.K) (List.range' y ((yL st).size-y))) (KQ none P Q0 st.K)) ds n ⟨.rg (rgI st) (yL st) (List.range y),[],st.l⟩ w)(e:tF y st=true:=by kernel_rfl):GS none P Q0 ds n st w:=by
 obtain⟨p,K,l⟩:=st
 cases p with
 |co c=>
  cases c with
  |region id ops b=>
   cases b with
   |true=>cases e
   |false=>
    simp only[tF,Bool.and_eq_true] at e
    have hy:=Nat.le_of_ble_eq_true e.2
    refine⟨mA (id:=id) (ops:=ops) (List.range y) (List.range' y (ops.size-y)) rfl e.1 ?_ h.out⟩
    have h3:=List.range'_append_1 (s:=0) (m:=y) (n:=ops.size-y)
    rw[Nat.zero_add] at h3
    rw[List.range_eq_range',List.range_eq_range',h3]
    congr 1
    omega
  |_=>cases e
 |_=>cases e
def tG(n:Nat)(ops:Array Oper)(j m:Nat)(st:Sx):Option (Nat×List Value):=cond (IP st&&(Gr ops n st.l j&&(Bi ops&&Nat.blt 0 m))) (match Rn (EV ops j) n st.l with
 |some (d,k,args)=>(match EJ n st.l d (.bool true) with |some _=>some (k,args)|none=>none)
 |none=>none) none
def cS(o:Oper)(v:Value)(l:Fr):Fr:=match o.dst with
 |some d=>(d,v)::l
 |none=>l
theorem XU{o:Oper}{l:Fr}{d:Option Nat}{k:Nat}{args:List Value}(h:Rn o n l=some (d,k,args)):o.dst=d:=by
 unfold Rn at h
 split at h
 · split at h
   · simp only[Option.some.injEq,Prod.mk.injEq] at h
     exact h.1
   · cases h
 · cases h
theorem yY{ops:Array Oper}{K:List Kt}{j m k:Nat}{args xa:List Value}{S1 S2:World→Prop}(id:Nat)(hx:xa=args)
 (hY: ∀m,YieldAt (FW none) m P k xa.toArray w fun e w'=>(e= .returned (.bool true)∧S1 w')∨(e= .returned (.bool false)∧S2 w'))
 (h1: ∀w',S1 w'→GS none P Q1 ds n ⟨.rg id ops (List.range' (j+1) (m-1)),K,cS (EV ops j) (.bool true) st.l⟩ w')
 (h2: ∀w',S2 w'→GS none P Q1 ds n ⟨.rg id ops (List.range' (j+1) (m-1)),K,cS (EV ops j) (.bool false) st.l⟩ w')
 (h:tG n ops j m st=some (k,args):=by kernel_rfl):GS none P (Exit.then (YP P ops (KQ none P Q1 K) (List.range' j m)) (KQ none P Q1 K)) ds n st w:=by
 unfold tG at h
 cases e1:IP st with
 |false=>rw[e1] at h;cases h
 |true=>
  cases e2:Gr ops n st.l j with
  |false=>rw[e1,e2] at h;cases h
  |true=>
   cases e3:Bi ops with
   |false=>rw[e1,e2,e3] at h;cases h
   |true=>
    cases e4:Nat.blt 0 m with
    |false=>rw[e1,e2,e3,e4] at h;cases h
    |true=>
     rw[e1,e2,e3,e4] at h
     simp only[Bool.and_self,cond_true] at h
     rw[BJ,decide_eq_true_eq] at e4
     obtain⟨m,rfl⟩: ∃q,m=q+1:=⟨m-1,by omega⟩
     split at h
     · rename_i d k' args' hc
       split at h
       · rename_i l2 hp
         obtain⟨rfl,rfl⟩:=Prod.mk.inj (Option.some.inj h)
         have hd:(EV ops j).dst=d:=XU hc
         refine cQ ?_ e1
         show YP P ops (KQ none P Q1 K) (List.range' j (m+1)) (Ad ds n st.l) w
         rw[List.range'_succ]
         have hput: ∀v,EJ n st.l d v=some (cS (EV ops j) v st.l):=fun v=>by
          unfold cS
          rw[hd]
          cases d with
          |none=>rfl
          |some d=>
           simp only[EJ] at hp ⊢
           cases hb:Nat.blt d n with
           |true=>rfl
           |false=>rw[hb] at hp;cases hp
         exact XN e2 hc e3 hx hY (fun w' hw=>⟨_,hput _,(h1 w' hw).out⟩) (fun w' hw=>⟨_,hput _,(h2 w' hw).out⟩)
       · cases h
     · cases h
theorem yN{ops:Array Oper}{K:List Kt}{j m:Nat}(id:Nat)(h:GS none P Q1 ds n ⟨.rg id ops (List.range' j m),K,st.l⟩ w)(hd:Bi ops=true:=by kernel_rfl)(e:IP st=true:=by kernel_rfl):
 GS none P (Exit.then (YP P ops (KQ none P Q1 K) (List.range' j m)) (KQ none P Q1 K)) ds n st w:=cQ (cK hd h.out) e
end
def tH(st:Sx):Operand:=match st.p with
 | .co (.rangeFunc x _ _ _)=>x
 |_=>default
def cT(st:Sx):Array Tmp:=match st.p with
 | .co (.rangeFunc _ ps _ _)=>ps
 |_=> #[]
def mI(st:Sx):Code:=match st.p with
 | .co (.rangeFunc _ _ a _)=>a
 |_=> .skip
def tI(st:Sx):Code:=match st.p with
 | .co (.rangeFunc _ _ _ b)=>b
 |_=> .skip
def PV(st:Sx):Bool:=match st.p with
 | .co (.rangeFunc _ _ _ _)=>true
 |_=>false
def PW:List Nat→List Value→Fr→Fr
 |p::ps,v::vs,l=>PW ps vs ((p,v)::l)
 |_,_,l=>l
def XV(n:Nat):List Nat→List Value→Bool
 | [],[]=>true
 |p::ps,_::vs=>Nat.blt p n&&XV n ps vs
 |_,_=>false
theorem Je{n:Nat}: ∀ {ps:List Nat} {vs:List Value},XV n ps vs=true→vs.length=ps.length
 | [],[],_=>rfl
 |_::_,_::_,h=>by
  simp only[XV,Bool.and_eq_true] at h
  simp only[List.length_cons,Je h.2]
theorem kM{n:Nat}: ∀ {ps:List Nat} {vs:List Value} {l:Fr},XV n ps vs=true→(ps.zip vs).foldl (fun(t:Array Value) (q:Nat×Value)=>t.setIfInBounds q.1 q.2) (Ad [] n l).tmps=(Ad [] n (PW ps vs l)).tmps
 | [],[],_,_=>rfl
 |p::ps,v::vs,l,h=>by
  simp only[XV,Bool.and_eq_true] at h
  have h1:=CE (ds:= []) (n:=n) (l:=l) (d:=p) (v:=v) (by rw[BJ] at h;simpa using h.1)
  have e:(Ad [] n ((p,v)::l)).tmps=(Ad [] n l).tmps.setIfInBounds p v:=by rw[←h1];simp[Act.put]
  rw[List.zip_cons_cons,List.foldl_cons,PW,←kM (l:=(p,v)::l) h.2,e]
theorem XW{n:Nat}{ps:List Nat}{vs:List Value}{l:Fr}(h:XV n ps vs=true):({tmps:=((ps.toArray:Array Tmp).zip vs.toArray).foldl (fun t (p,v)=>t.setIfInBounds p v) (Ad [] n l).tmps,defers:= []}:Act)=mk n (PW ps vs l):=by
 have h1:=kM (l:=l) h
 simp only[←Array.foldl_toList,Array.toList_zip]
 exact congrArg (fun t=>({tmps:=t,defers:= []}:Act)) h1
def yM(P:Program)(n:Nat)(st:Sx)(vs:List Value):Fr:=(VJ P n ⟨.co (mI st),[],PW (cT st).toList vs st.l⟩ []).l
def tJ(P:Program)(n:Nat)(st:Sx)(vs:List Value):Bool:=PV st&&(XV n (cT st).toList vs&&(IP (VJ P n ⟨.co (mI st),[],PW (cT st).toList vs st.l⟩ [])&&((PU P n ⟨.co (mI st),[],PW (cT st).toList vs st.l⟩ []).1.isEmpty&&(PU P n ⟨.co (mI st),[],PW (cT st).toList vs st.l⟩ []).2.isEmpty)))
section
variable {P : Program} {Q0 : Exit → Act → World → Prop} {ds : List Deferred} {n : Nat} {g w : World} {st : Sx} {L : List AB} {gf : Nat} {cap : List Value} {N : Nat} {xs : Nat → List Value} {K0 : List AB}
theorem XX{r:Option Nat}{st:Sx}(hr:GS r P Q0 ds n (VJ P n st []) w)(h1:(PU P n st []).1.isEmpty=true)(h2:(PU P n st []).2.isEmpty=true):GS r P Q0 ds n st w:=
 IY 1000 st [] (by have:(bS P n 1000 st []).2.2.1= []:=List.isEmpty_iff.1 h1;rw[this];trivial) (by have:(bS P n 1000 st []).2.2.2= []:=List.isEmpty_iff.1 h2;rw[this];trivial) hr
theorem KA{n:Nat}{l:Fr}:(Ad ds n l).tmps=(Ad [] n l).tmps:=rfl
theorem yO{A:Nat→AB}(Inv:Nat→List AB→Prop)(Ex:Code→Nat→List AB→Prop)(eg: ∀a w,(callFunc gf a).run P w= .ok (.enter gf a) w)(hit:cJ P gf cap N xs A)(h0:Inv 0 K0)(hs:sat g w (K0++([A 0]++L)))
 (hbody: ∀i,i<N→ ∀(lp:Nat) (w1:World) (K:List AB) (G:AB),Inv i K→sat g w1 (K++([A (i+1)]++ [G]))→GS (some lp) P (RB g Inv Ex [A (i+1)] i G) [] n ⟨.co (tI st),[],yM P n st (xs i)⟩ w1)
 (hdone: ∀(D:Nat) (w1:World) (K:List AB),Inv N K→sat g w1 (pt D (.deferred (some []))::(K++([A N]++L)))→GS none P Q0 (RV D::ds) n ⟨.ou .normal,st.K,st.l⟩ w1)
 (hstop: ∀(D:Nat) (w1:World) (ex:Code) (i:Nat) (K:List AB),i<N→Ex ex i K→sat g w1 (pt D (.deferred (some []))::(K++L))→GS none P Q0 (RV D::ds) n ⟨.co ex,st.K,st.l⟩ w1)
 (hx:fe n st.l (tH st)= .func (.func gf) #[] cap.toArray:=by kernel_rfl)(ha: ∀i,tJ P n st (xs i)=true:=by intro _;kernel_rfl):GS none P Q0 ds n st w:=by
 obtain⟨p,K,l⟩:=st
 cases p with
 |co c=>
  cases c with
  |rangeFunc x ps asg bd=>
   have ok: ∀i,XV n ps.toList (xs i)=true∧IP (VJ P n ⟨.co asg,[],PW ps.toList (xs i) l⟩ [])=true∧(PU P n ⟨.co asg,[],PW ps.toList (xs i) l⟩ []).1.isEmpty=true∧(PU P n ⟨.co asg,[],PW ps.toList (xs i) l⟩ []).2.isEmpty=true:=fun i=>by
    have h:=ha i
    simp only[tJ,Bool.and_eq_true] at h
    exact⟨h.2.1,h.2.2.1,h.2.2.2.1,h.2.2.2.2⟩
   refine⟨TV (fun i=>PW ps.toList (xs i) l) (fun i _=>yM P n ⟨.co (.rangeFunc x ps asg bd),K,l⟩ (xs i)) (fun i _ K=>Inv i K) Inv Ex rfl hx eg hit h0 hs (fun i _=> ?_) (fun i _=> ?_) ?_ ?_ ?_ ?_⟩
   · rw[Je (ok i).1,Array.length_toList]
   · have h:=XW (l:=l) (ok i).1
     rw[KA]
     simpa using h
   · intro i hi lp w1 K1 G hK h1
     refine(XX (r:=some lp) (cQ ?_ (ok i).2.1) (ok i).2.2.1 (ok i).2.2.2).out
     exact⟨0,K1,rfl,hK,h1⟩
   · intro i hi lp w1 _ K1 G hK h1
     exact(hbody i hi lp w1 K1 G hK h1).out
   · intro D w1 K1 hK h1
     exact(hdone D w1 K1 hK h1).out
   · intro D w1 ex i K1 hi hE h1
     exact(hstop D w1 ex i K1 hi hE h1).out
  |_=>have h:=ha 0;simp[tJ,PV] at h
 |_=>have h:=ha 0;simp[tJ,PV] at h
theorem kN{At:List AB}(Inv:Nat→List AB→Prop)(Ex:Code→Nat→List AB→Prop)(eg: ∀a w,(callFunc gf a).run P w= .ok (.enter gf a) w)(hit:IT P gf cap N xs At)(h0:Inv 0 K0)(hs:sat g w (K0++(At++L)))
 (hbody: ∀i,i<N→ ∀(lp:Nat) (w1:World) (K:List AB) (G:AB),Inv i K→sat g w1 (K++(At++ [G]))→GS (some lp) P (RB g Inv Ex At i G) [] n ⟨.co (tI st),[],yM P n st (xs i)⟩ w1)
 (hdone: ∀(D:Nat) (w1:World) (K:List AB),Inv N K→sat g w1 (pt D (.deferred (some []))::(K++(At++L)))→GS none P Q0 (RV D::ds) n ⟨.ou .normal,st.K,st.l⟩ w1)
 (hstop: ∀(D:Nat) (w1:World) (ex:Code) (i:Nat) (K:List AB),i<N→Ex ex i K→sat g w1 (pt D (.deferred (some []))::(K++L))→GS none P Q0 (RV D::ds) n ⟨.co ex,st.K,st.l⟩ w1)
 (hx:fe n st.l (tH st)= .func (.func gf) #[] cap.toArray:=by kernel_rfl)(ha: ∀i,tJ P n st (xs i)=true:=by intro _;kernel_rfl):GS none P Q0 ds n st w:=
 yO (A:=fun _=>Aj At) Inv Ex eg (XL hit) h0 (sat_midA.1 hs)
  (fun i hi lp w1 K G hK h=>⟨((hbody i hi lp w1 K G hK (sat_midA.2 h)).out).mono XM⟩)
  (fun D w1 K hK h=>hdone D w1 K hK ((sat_midA (K:=pt D (.deferred (some []))::K)).2 h)) hstop hx ha
theorem tK{rr:Option Nat}{lb:Nat→Fr}{Mid:Nat→List AB→Prop}{At K2:List AB}{G:AB}{Q:Exit→Act→World→Prop}(b:Nat)(hM:Mid b K2)(h:sat g w (K2++(At++ [G])))(e:IP st=true:=by kernel_rfl)(hl:st.l=lb b:=by kernel_rfl):
 GS rr P (Exit.then (fun a w2=> ∃r K2,a=mk n (lb r)∧Mid r K2∧sat g w2 (K2++(At++ [G]))) Q) [] n st w:=ET ⟨b,K2,by rw[hl],hM,h⟩ e
def NP(n:Nat)(st:Sx)(vs:List Value):Bool:=PV st&&XV n (cT st).toList vs
theorem kO{A:Nat→AB}(ex:Nat→Nat→Fr)(Mid:Nat→Nat→List AB→Prop)(Inv:Nat→List AB→Prop)(Ex:Code→Nat→List AB→Prop)(eg: ∀a w,(callFunc gf a).run P w= .ok (.enter gf a) w)(hit:cJ P gf cap N xs A)(h0:Inv 0 K0)(hs:sat g w (K0++([A 0]++L)))
 (hasg: ∀i,i<N→ ∀(lp:Nat) (w1:World) (K:List AB) (G:AB),Inv i K→sat g w1 (K++([A (i+1)]++ [G]))→GS (some lp) P (Exit.then (fun a w2=> ∃r K2,a=mk n (ex i r++st.l)∧Mid i r K2∧sat g w2 (K2++([A (i+1)]++ [G]))) (fun _ _ _=>False)) [] n ⟨.co (mI st),[],PW (cT st).toList (xs i) st.l⟩ w1)
 (hbody: ∀i,i<N→ ∀(lp:Nat) (w1:World) (r:Nat) (K:List AB) (G:AB),Mid i r K→sat g w1 (K++([A (i+1)]++ [G]))→GS (some lp) P (RB g Inv Ex [A (i+1)] i G) [] n ⟨.co (tI st),[],ex i r++st.l⟩ w1)
 (hdone: ∀(D:Nat) (w1:World) (K:List AB),Inv N K→sat g w1 (pt D (.deferred (some []))::(K++([A N]++L)))→GS none P Q0 (RV D::ds) n ⟨.ou .normal,st.K,st.l⟩ w1)
 (hstop: ∀(D:Nat) (w1:World) (ex:Code) (i:Nat) (K:List AB),i<N→Ex ex i K→sat g w1 (pt D (.deferred (some []))::(K++L))→GS none P Q0 (RV D::ds) n ⟨.co ex,st.K,st.l⟩ w1)
 (hx:fe n st.l (tH st)= .func (.func gf) #[] cap.toArray:=by kernel_rfl)(ha: ∀i,NP n st (xs i)=true:=by intro _;kernel_rfl):GS none P Q0 ds n st w:=by
 obtain⟨p,K,l⟩:=st
 cases p with
 |co c=>
  cases c with
  |rangeFunc x ps asg bd=>
   have ok: ∀i,XV n ps.toList (xs i)=true:=fun i=>by
    have h:=ha i
    simp only[NP,Bool.and_eq_true] at h
    exact h.2
   refine⟨TV (fun i=>PW ps.toList (xs i) l) (fun i r=>ex i r++l) Mid Inv Ex rfl hx eg hit h0 hs (fun i _=> ?_) (fun i _=> ?_) ?_ ?_ ?_ ?_⟩
   · rw[Je (ok i),Array.length_toList]
   · have h:=XW (l:=l) (ok i)
     rw[KA]
     simpa using h
   · intro i hi lp w1 K1 G hK h1
     exact(hasg i hi lp w1 K1 G hK h1).out
   · intro i hi lp w1 r K1 G hK h1
     exact(hbody i hi lp w1 r K1 G hK h1).out
   · intro D w1 K1 hK h1
     exact(hdone D w1 K1 hK h1).out
   · intro D w1 ex i K1 hi hE h1
     exact(hstop D w1 ex i K1 hi hE h1).out
  |_=>have h:=ha 0;simp[NP,PV] at h
 |_=>have h:=ha 0;simp[NP,PV] at h
theorem Rr{At:List AB}(ex:Nat→Nat→Fr)(Mid:Nat→Nat→List AB→Prop)(Inv:Nat→List AB→Prop)(Ex:Code→Nat→List AB→Prop)(eg: ∀a w,(callFunc gf a).run P w= .ok (.enter gf a) w)(hit:IT P gf cap N xs At)(h0:Inv 0 K0)(hs:sat g w (K0++(At++L)))
 (hasg: ∀i,i<N→ ∀(lp:Nat) (w1:World) (K:List AB) (G:AB),Inv i K→sat g w1 (K++(At++ [G]))→GS (some lp) P (Exit.then (fun a w2=> ∃r K2,a=mk n (ex i r++st.l)∧Mid i r K2∧sat g w2 (K2++(At++ [G]))) (fun _ _ _=>False)) [] n ⟨.co (mI st),[],PW (cT st).toList (xs i) st.l⟩ w1)
 (hbody: ∀i,i<N→ ∀(lp:Nat) (w1:World) (r:Nat) (K:List AB) (G:AB),Mid i r K→sat g w1 (K++(At++ [G]))→GS (some lp) P (RB g Inv Ex At i G) [] n ⟨.co (tI st),[],ex i r++st.l⟩ w1)
 (hdone: ∀(D:Nat) (w1:World) (K:List AB),Inv N K→sat g w1 (pt D (.deferred (some []))::(K++(At++L)))→GS none P Q0 (RV D::ds) n ⟨.ou .normal,st.K,st.l⟩ w1)
 (hstop: ∀(D:Nat) (w1:World) (ex:Code) (i:Nat) (K:List AB),i<N→Ex ex i K→sat g w1 (pt D (.deferred (some []))::(K++L))→GS none P Q0 (RV D::ds) n ⟨.co ex,st.K,st.l⟩ w1)
 (hx:fe n st.l (tH st)= .func (.func gf) #[] cap.toArray:=by kernel_rfl)(ha: ∀i,NP n st (xs i)=true:=by intro _;kernel_rfl):GS none P Q0 ds n st w:=
 kO (A:=fun _=>Aj At) ex Mid Inv Ex eg (XL hit) h0 (sat_midA.1 hs)
  (fun i hi lp w1 K G hK h=>⟨((hasg i hi lp w1 K G hK (sat_midA.2 h)).out).mono fun e a w2 hq=>by
   cases e with
   |normal=>obtain⟨r,K2,h1,h2,h3⟩:=hq;exact⟨r,K2,h1,h2,sat_midA.1 h3⟩
   |_=>exact hq⟩)
  (fun i hi lp w1 r K G hK h=>⟨((hbody i hi lp w1 r K G hK (sat_midA.2 h)).out).mono XM⟩)
  (fun D w1 K hK h=>hdone D w1 K hK ((sat_midA (K:=pt D (.deferred (some []))::K)).2 h)) hstop hx ha
def kP(P:Program)(fn:Func)(n:Nat)(st:Sx)(vs:List Value):Option (Value×List (Addr×Value)):=match st.p,st.K with
 | .ou .ret,[]=>EU P (VE fn n st.l) vs
 |_,_=>none
theorem LM{fn:Func}{m D:Nat}{R:Ending→World→Prop}(v:Value)(hs:sat g w (pt D (.deferred (some []))::L))(its: ∀w',sat g w' (pt D (.deferred none)::L)→List (Iq w'))(hR: ∀w',sat g w' (pt D (.deferred none)::L)→R (.returned v) w')
 (vs:List Value)(ls:List (Addr×Value))(h:kP P fn n st vs=some (v,ls):=by kernel_rfl)(hv: ∀w' h',XT (its w' h')=ls:=by intro _ _;kernel_rfl):GS none P (D6 m P fn R) [RV D] n st w:=by
 obtain⟨p,K,l⟩:=st
 unfold kP at h
 split at h
 · rename_i e1 e2
   simp only at e1 e2
   subst e1
   subst e2
   exact⟨cI hs vs v ls h fun w' h'=>⟨hv w' h'▸F7 (Eb (its w' h')),hR w' h'⟩⟩
 · cases h
end
end Go.Proofs.YtcgkoffnknpgjaaGreatDoor
