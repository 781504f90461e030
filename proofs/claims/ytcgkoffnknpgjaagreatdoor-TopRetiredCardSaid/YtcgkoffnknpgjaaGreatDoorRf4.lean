/-
  Ranges over functions, and iterators, over states that the kernel runs. No program in sight.
-/
import Derived.Test.YtcgkoffnknpgjaaGreatDoorRn2
import Derived.Test.YtcgkoffnknpgjaaGreatDoorRfa
namespace Go.Proofs.YtcgkoffnknpgjaaGreatDoor
set_option linter.unusedVariables false
set_option linter.unusedSimpArgs false
section
variable {r : Option Nat} {P : Program} {Q0 : Exit → Act → World → Prop} {ds : List Deferred} {n : Nat} {g w : World} {st : Sx} {L : List Assn}
theorem endN(h:Q0 .normal (mkd ds n st.l) w)(e:isNm st=true:=by kernel_rfl):GS r P Q0 ds n st w:=by
 obtain⟨p,K,l⟩:=st
 unfold isNm at e
 split at e
 · rename_i e1 e2
   simp only at e1 e2
   subst e1
   subst e2
   exact⟨h⟩
 · cases e
def isRt(st:Sx):Bool:=match st.p,st.K with
 | .ou .ret,[]=>true
 |_,_=>false
theorem endR(h:Q0 .ret (mkd ds n st.l) w)(e:isRt st=true:=by kernel_rfl):GS r P Q0 ds n st w:=by
 obtain⟨p,K,l⟩:=st
 unfold isRt at e
 split at e
 · rename_i e1 e2
   simp only at e1 e2
   subst e1
   subst e2
   exact⟨h⟩
 · cases e
variable {Inv : Nat → List Assn → Prop} {Ex : Code → Nat → List Assn → Prop} {At : List Assn} {i : Nat} {G : Assn} {K : List Assn}
theorem rbN(hI:Inv (i+1) K)(h:sat g w (K++(At++ [G])))(e:isNm st=true:=by kernel_rfl):GS r P (RB g Inv Ex At i G) ds n st w:=endN ⟨K,hI,h⟩ e
theorem rbR(hE:Ex .ret i K)(h:sat g w (K++ [G]))(e:isRt st=true:=by kernel_rfl):GS r P (RB g Inv Ex At i G) ds n st w:=endR ⟨K,hE,h⟩ e
end
section
variable {P : Program} {Q0 Q1 : Exit → Act → World → Prop} {ds : List Deferred} {n : Nat} {g w : World} {st : Sx} {L : List Assn}
theorem itS{f:FuncId}{fn:Func}{cap:List Value}{N:Nat}{xs:Nat→List Value}{At:List Assn}(hf:P.funcs[f]? =some fn)(hn:fn.ntmps=n)
 (h: ∀(g w:World) (R:Assn) (k:Nat) (J E:Nat→Assn),
   (∀i,i<N→ ∀(w1:World) (G:List Assn),sat g w1 (J i::At++G)→ ∀m,YieldAt (FW none) m P k (xs i).toArray w1 fun e w'=>(e= .returned (.bool true)∧sat g w' (J (i+1)::At++G))∨(e= .returned (.bool false)∧sat g w' (E i::G)))→
   sat g w (J 0::At++ [R])→GS none P (PostM 0 P fn fun e w'=>(∃v,e= .returned v)∧(sat g w' (J N::At++ [R])∨ ∃i,i<N∧sat g w' [E i,R])) [] n ⟨.co (CA fn []),[],enumF (Value.func (.yield k) #[] #[]::cap) 0⟩ w)
 (hb:fn.body=some (CA fn []):=by kernel_rfl)(ha:Nat.ble (cap.length+1) n=true:=by kernel_rfl):IT P f cap N xs At:=
 it_in n (fun k=>enumF (Value.func (.yield k) #[] #[]::cap) 0) hf hb hn ha (fun _=>rfl) fun g w R k J E hY h0=>(h g w R k J E hY h0).out
theorem itSA{f:FuncId}{fn:Func}{cap:List Value}{N:Nat}{xs:Nat→List Value}{A:Nat→Assn}(hf:P.funcs[f]? =some fn)(hn:fn.ntmps=n)
 (h: ∀(g w:World) (R:Assn) (k:Nat) (J E:Nat→Assn),
   (∀i,i<N→ ∀(w1:World) (G:List Assn),sat g w1 (J i::A (i+1)::G)→ ∀m,YieldAt (FW none) m P k (xs i).toArray w1 fun e w'=>(e= .returned (.bool true)∧sat g w' (J (i+1)::A (i+1)::G))∨(e= .returned (.bool false)∧sat g w' (E i::G)))→
   sat g w (J 0::A 0:: [R])→GS none P (PostM 0 P fn fun e w'=>(∃v,e= .returned v)∧(sat g w' (J N::A N:: [R])∨ ∃i,i<N∧sat g w' [E i,R])) [] n ⟨.co (CA fn []),[],enumF (Value.func (.yield k) #[] #[]::cap) 0⟩ w)
 (hb:fn.body=some (CA fn []):=by kernel_rfl)(ha:Nat.ble (cap.length+1) n=true:=by kernel_rfl):ITA P f cap N xs A:=
 it_inA n (fun k=>enumF (Value.func (.yield k) #[] #[]::cap) 0) hf hb hn ha (fun _=>rfl) fun g w R k J E hY h0=>(h g w R k J E hY h0).out
def rgI(st:Sx):Nat:=match st.p with
 | .co (.region id _ _)=>id
 |_=>0
def rgO(st:Sx):Array Oper:=match st.p with
 | .co (.region _ ops _)=>ops
 |_=> #[]
def isPl(y:Nat)(st:Sx):Bool:=match st.p with
 | .co (.region _ ops false)=>noDefer ops&&Nat.ble y ops.size
 |_=>false
theorem plS(y:Nat)(h:GS none P (Exit.then (YP P (rgO st) (KQ none P Q0 st.K) (List.range' y ((rgO st).size-y))) (KQ none P Q0 st.K)) ds n ⟨.rg (rgI st) (rgO st) (List.range y),[],st.l⟩ w)(e:isPl y st=true:=by kernel_rfl):GS none P Q0 ds n st w:=by
 obtain⟨p,K,l⟩:=st
 cases p with
 |co c=>
  cases c with
  |region id ops b=>
   cases b with
   |true=>cases e
   |false=>
    simp only[isPl,Bool.and_eq_true] at e
    have hy:=Nat.le_of_ble_eq_true e.2
    refine⟨gi_ply (id:=id) (ops:=ops) (List.range y) (List.range' y (ops.size-y)) rfl e.1 ?_ h.out⟩
    have h3:=List.range'_append_1 (s:=0) (m:=y) (n:=ops.size-y)
    rw[Nat.zero_add] at h3
    rw[List.range_eq_range',List.range_eq_range',h3]
    congr 1
    omega
  |_=>cases e
 |_=>cases e
def yieC(n:Nat)(ops:Array Oper)(j m:Nat)(st:Sx):Option (Nat×List Value):=cond (isNm st&&(chkA ops n st.l j&&(noDefer ops&&Nat.blt 0 m))) (match chkY (opA ops j) n st.l with
 |some (d,k,args)=>(match putF n st.l d (.bool true) with |some _=>some (k,args)|none=>none)
 |none=>none) none
def putY(o:Oper)(v:Value)(l:Fr):Fr:=match o.dst with
 |some d=>(d,v)::l
 |none=>l
theorem chkY_dst{o:Oper}{l:Fr}{d:Option Nat}{k:Nat}{args:List Value}(h:chkY o n l=some (d,k,args)):o.dst=d:=by
 unfold chkY at h
 split at h
 · split at h
   · simp only[Option.some.injEq,Prod.mk.injEq] at h
     exact h.1
   · cases h
 · cases h
theorem yY{ops:Array Oper}{K:List Kt}{j m k:Nat}{args xa:List Value}{S1 S2:World→Prop}(id:Nat)(hx:xa=args)
 (hY: ∀m,YieldAt (FW none) m P k xa.toArray w fun e w'=>(e= .returned (.bool true)∧S1 w')∨(e= .returned (.bool false)∧S2 w'))
 (h1: ∀w',S1 w'→GS none P Q1 ds n ⟨.rg id ops (List.range' (j+1) (m-1)),K,putY (opA ops j) (.bool true) st.l⟩ w')
 (h2: ∀w',S2 w'→GS none P Q1 ds n ⟨.rg id ops (List.range' (j+1) (m-1)),K,putY (opA ops j) (.bool false) st.l⟩ w')
 (h:yieC n ops j m st=some (k,args):=by kernel_rfl):GS none P (Exit.then (YP P ops (KQ none P Q1 K) (List.range' j m)) (KQ none P Q1 K)) ds n st w:=by
 unfold yieC at h
 cases e1:isNm st with
 |false=>rw[e1] at h;cases h
 |true=>
  cases e2:chkA ops n st.l j with
  |false=>rw[e1,e2] at h;cases h
  |true=>
   cases e3:noDefer ops with
   |false=>rw[e1,e2,e3] at h;cases h
   |true=>
    cases e4:Nat.blt 0 m with
    |false=>rw[e1,e2,e3,e4] at h;cases h
    |true=>
     rw[e1,e2,e3,e4] at h
     simp only[Bool.and_self,cond_true] at h
     rw[nat_blt,decide_eq_true_eq] at e4
     obtain⟨m,rfl⟩: ∃q,m=q+1:=⟨m-1,by omega⟩
     split at h
     · rename_i d k' args' hc
       split at h
       · rename_i l2 hp
         obtain⟨rfl,rfl⟩:=Prod.mk.inj (Option.some.inj h)
         have hd:(opA ops j).dst=d:=chkY_dst hc
         refine endN ?_ e1
         show YP P ops (KQ none P Q1 K) (List.range' j (m+1)) (mkd ds n st.l) w
         rw[List.range'_succ]
         have hput: ∀v,putF n st.l d v=some (putY (opA ops j) v st.l):=fun v=>by
          unfold putY
          rw[hd]
          cases d with
          |none=>rfl
          |some d=>
           simp only[putF] at hp ⊢
           cases hb:Nat.blt d n with
           |true=>rfl
           |false=>rw[hb] at hp;cases hp
         exact yp_yield e2 hc e3 hx hY (fun w' hw=>⟨_,hput _,(h1 w' hw).out⟩) (fun w' hw=>⟨_,hput _,(h2 w' hw).out⟩)
       · cases h
     · cases h
theorem yN{ops:Array Oper}{K:List Kt}{j m:Nat}(id:Nat)(h:GS none P Q1 ds n ⟨.rg id ops (List.range' j m),K,st.l⟩ w)(hd:noDefer ops=true:=by kernel_rfl)(e:isNm st=true:=by kernel_rfl):
 GS none P (Exit.then (YP P ops (KQ none P Q1 K) (List.range' j m)) (KQ none P Q1 K)) ds n st w:=endN (yp_skip hd h.out) e
end
def rfX(st:Sx):Operand:=match st.p with
 | .co (.rangeFunc x _ _ _)=>x
 |_=>default
def rfP(st:Sx):Array Tmp:=match st.p with
 | .co (.rangeFunc _ ps _ _)=>ps
 |_=> #[]
def rfA(st:Sx):Code:=match st.p with
 | .co (.rangeFunc _ _ a _)=>a
 |_=> .skip
def rfB(st:Sx):Code:=match st.p with
 | .co (.rangeFunc _ _ _ b)=>b
 |_=> .skip
def isRF(st:Sx):Bool:=match st.p with
 | .co (.rangeFunc _ _ _ _)=>true
 |_=>false
def rfL:List Nat→List Value→Fr→Fr
 |p::ps,v::vs,l=>rfL ps vs ((p,v)::l)
 |_,_,l=>l
def okT(n:Nat):List Nat→List Value→Bool
 | [],[]=>true
 |p::ps,_::vs=>Nat.blt p n&&okT n ps vs
 |_,_=>false
theorem okT_len{n:Nat}: ∀ {ps:List Nat} {vs:List Value},okT n ps vs=true→vs.length=ps.length
 | [],[],_=>rfl
 |_::_,_::_,h=>by
  simp only[okT,Bool.and_eq_true] at h
  simp only[List.length_cons,okT_len h.2]
theorem foldL{n:Nat}: ∀ {ps:List Nat} {vs:List Value} {l:Fr},okT n ps vs=true→(ps.zip vs).foldl (fun(t:Array Value) (q:Nat×Value)=>t.setIfInBounds q.1 q.2) (mkd [] n l).tmps=(mkd [] n (rfL ps vs l)).tmps
 | [],[],_,_=>rfl
 |p::ps,v::vs,l,h=>by
  simp only[okT,Bool.and_eq_true] at h
  have h1:=put_mk (ds:= []) (n:=n) (l:=l) (d:=p) (v:=v) (by rw[nat_blt] at h;simpa using h.1)
  have e:(mkd [] n ((p,v)::l)).tmps=(mkd [] n l).tmps.setIfInBounds p v:=by rw[←h1];simp[Act.put]
  rw[List.zip_cons_cons,List.foldl_cons,rfL,←foldL (l:=(p,v)::l) h.2,e]
theorem foldT{n:Nat}{ps:List Nat}{vs:List Value}{l:Fr}(h:okT n ps vs=true):({tmps:=((ps.toArray:Array Tmp).zip vs.toArray).foldl (fun t (p,v)=>t.setIfInBounds p v) (mkd [] n l).tmps,defers:= []}:Act)=mk n (rfL ps vs l):=by
 have h1:=foldL (l:=l) h
 simp only[←Array.foldl_toList,Array.toList_zip]
 exact congrArg (fun t=>({tmps:=t,defers:= []}:Act)) h1
def asL(P:Program)(n:Nat)(st:Sx)(vs:List Value):Fr:=(simS P n ⟨.co (rfA st),[],rfL (rfP st).toList vs st.l⟩ []).l
def asC(P:Program)(n:Nat)(st:Sx)(vs:List Value):Bool:=isRF st&&(okT n (rfP st).toList vs&&(isNm (simS P n ⟨.co (rfA st),[],rfL (rfP st).toList vs st.l⟩ [])&&((simC P n ⟨.co (rfA st),[],rfL (rfP st).toList vs st.l⟩ []).1.isEmpty&&(simC P n ⟨.co (rfA st),[],rfL (rfP st).toList vs st.l⟩ []).2.isEmpty)))
section
variable {P : Program} {Q0 : Exit → Act → World → Prop} {ds : List Deferred} {n : Nat} {g w : World} {st : Sx} {L : List Assn} {gf : Nat} {cap : List Value} {N : Nat} {xs : Nat → List Value} {K0 : List Assn}
theorem sim_none{r:Option Nat}{st:Sx}(hr:GS r P Q0 ds n (simS P n st []) w)(h1:(simC P n st []).1.isEmpty=true)(h2:(simC P n st []).2.isEmpty=true):GS r P Q0 ds n st w:=
 sim_sound 1000 st [] (by have:(sim P n 1000 st []).2.2.1= []:=List.isEmpty_iff.1 h1;rw[this];trivial) (by have:(sim P n 1000 st []).2.2.2= []:=List.isEmpty_iff.1 h2;rw[this];trivial) hr
theorem mkd_tmps{n:Nat}{l:Fr}:(mkd ds n l).tmps=(mkd [] n l).tmps:=rfl
theorem rfSA{A:Nat→Assn}(Inv:Nat→List Assn→Prop)(Ex:Code→Nat→List Assn→Prop)(eg: ∀a w,(callFunc gf a).run P w= .ok (.enter gf a) w)(hit:ITA P gf cap N xs A)(h0:Inv 0 K0)(hs:sat g w (K0++([A 0]++L)))
 (hbody: ∀i,i<N→ ∀(lp:Nat) (w1:World) (K:List Assn) (G:Assn),Inv i K→sat g w1 (K++([A (i+1)]++ [G]))→GS (some lp) P (RB g Inv Ex [A (i+1)] i G) [] n ⟨.co (rfB st),[],asL P n st (xs i)⟩ w1)
 (hdone: ∀(D:Nat) (w1:World) (K:List Assn),Inv N K→sat g w1 (pt D (.deferred (some []))::(K++([A N]++L)))→GS none P Q0 (dfr D::ds) n ⟨.ou .normal,st.K,st.l⟩ w1)
 (hstop: ∀(D:Nat) (w1:World) (ex:Code) (i:Nat) (K:List Assn),i<N→Ex ex i K→sat g w1 (pt D (.deferred (some []))::(K++L))→GS none P Q0 (dfr D::ds) n ⟨.co ex,st.K,st.l⟩ w1)
 (hx:fe n st.l (rfX st)= .func (.func gf) #[] cap.toArray:=by kernel_rfl)(ha: ∀i,asC P n st (xs i)=true:=by intro _;kernel_rfl):GS none P Q0 ds n st w:=by
 obtain⟨p,K,l⟩:=st
 cases p with
 |co c=>
  cases c with
  |rangeFunc x ps asg bd=>
   have ok: ∀i,okT n ps.toList (xs i)=true∧isNm (simS P n ⟨.co asg,[],rfL ps.toList (xs i) l⟩ [])=true∧(simC P n ⟨.co asg,[],rfL ps.toList (xs i) l⟩ []).1.isEmpty=true∧(simC P n ⟨.co asg,[],rfL ps.toList (xs i) l⟩ []).2.isEmpty=true:=fun i=>by
    have h:=ha i
    simp only[asC,Bool.and_eq_true] at h
    exact⟨h.2.1,h.2.2.1,h.2.2.2.1,h.2.2.2.2⟩
   refine⟨gi_rf2A (fun i=>rfL ps.toList (xs i) l) (fun i _=>asL P n ⟨.co (.rangeFunc x ps asg bd),K,l⟩ (xs i)) (fun i _ K=>Inv i K) Inv Ex rfl hx eg hit h0 hs (fun i _=> ?_) (fun i _=> ?_) ?_ ?_ ?_ ?_⟩
   · rw[okT_len (ok i).1,Array.length_toList]
   · have h:=foldT (l:=l) (ok i).1
     rw[mkd_tmps]
     simpa using h
   · intro i hi lp w1 K1 G hK h1
     refine(sim_none (r:=some lp) (endN ?_ (ok i).2.1) (ok i).2.2.1 (ok i).2.2.2).out
     exact⟨0,K1,rfl,hK,h1⟩
   · intro i hi lp w1 _ K1 G hK h1
     exact(hbody i hi lp w1 K1 G hK h1).out
   · intro D w1 K1 hK h1
     exact(hdone D w1 K1 hK h1).out
   · intro D w1 ex i K1 hi hE h1
     exact(hstop D w1 ex i K1 hi hE h1).out
  |_=>have h:=ha 0;simp[asC,isRF] at h
 |_=>have h:=ha 0;simp[asC,isRF] at h
theorem rfS{At:List Assn}(Inv:Nat→List Assn→Prop)(Ex:Code→Nat→List Assn→Prop)(eg: ∀a w,(callFunc gf a).run P w= .ok (.enter gf a) w)(hit:IT P gf cap N xs At)(h0:Inv 0 K0)(hs:sat g w (K0++(At++L)))
 (hbody: ∀i,i<N→ ∀(lp:Nat) (w1:World) (K:List Assn) (G:Assn),Inv i K→sat g w1 (K++(At++ [G]))→GS (some lp) P (RB g Inv Ex At i G) [] n ⟨.co (rfB st),[],asL P n st (xs i)⟩ w1)
 (hdone: ∀(D:Nat) (w1:World) (K:List Assn),Inv N K→sat g w1 (pt D (.deferred (some []))::(K++(At++L)))→GS none P Q0 (dfr D::ds) n ⟨.ou .normal,st.K,st.l⟩ w1)
 (hstop: ∀(D:Nat) (w1:World) (ex:Code) (i:Nat) (K:List Assn),i<N→Ex ex i K→sat g w1 (pt D (.deferred (some []))::(K++L))→GS none P Q0 (dfr D::ds) n ⟨.co ex,st.K,st.l⟩ w1)
 (hx:fe n st.l (rfX st)= .func (.func gf) #[] cap.toArray:=by kernel_rfl)(ha: ∀i,asC P n st (xs i)=true:=by intro _;kernel_rfl):GS none P Q0 ds n st w:=
 rfSA (A:=fun _=>star At) Inv Ex eg (ita_of hit) h0 (sat_midA.1 hs)
  (fun i hi lp w1 K G hK h=>⟨((hbody i hi lp w1 K G hK (sat_midA.2 h)).out).mono rb_mid⟩)
  (fun D w1 K hK h=>hdone D w1 K hK ((sat_midA (K:=pt D (.deferred (some []))::K)).2 h)) hstop hx ha
theorem enA{rr:Option Nat}{lb:Nat→Fr}{Mid:Nat→List Assn→Prop}{At K2:List Assn}{G:Assn}{Q:Exit→Act→World→Prop}(b:Nat)(hM:Mid b K2)(h:sat g w (K2++(At++ [G])))(e:isNm st=true:=by kernel_rfl)(hl:st.l=lb b:=by kernel_rfl):
 GS rr P (Exit.then (fun a w2=> ∃r K2,a=mk n (lb r)∧Mid r K2∧sat g w2 (K2++(At++ [G]))) Q) [] n st w:=enL ⟨b,K2,by rw[hl],hM,h⟩ e
def rf2C(n:Nat)(st:Sx)(vs:List Value):Bool:=isRF st&&okT n (rfP st).toList vs
theorem rfS2A{A:Nat→Assn}(ex:Nat→Nat→Fr)(Mid:Nat→Nat→List Assn→Prop)(Inv:Nat→List Assn→Prop)(Ex:Code→Nat→List Assn→Prop)(eg: ∀a w,(callFunc gf a).run P w= .ok (.enter gf a) w)(hit:ITA P gf cap N xs A)(h0:Inv 0 K0)(hs:sat g w (K0++([A 0]++L)))
 (hasg: ∀i,i<N→ ∀(lp:Nat) (w1:World) (K:List Assn) (G:Assn),Inv i K→sat g w1 (K++([A (i+1)]++ [G]))→GS (some lp) P (Exit.then (fun a w2=> ∃r K2,a=mk n (ex i r++st.l)∧Mid i r K2∧sat g w2 (K2++([A (i+1)]++ [G]))) (fun _ _ _=>False)) [] n ⟨.co (rfA st),[],rfL (rfP st).toList (xs i) st.l⟩ w1)
 (hbody: ∀i,i<N→ ∀(lp:Nat) (w1:World) (r:Nat) (K:List Assn) (G:Assn),Mid i r K→sat g w1 (K++([A (i+1)]++ [G]))→GS (some lp) P (RB g Inv Ex [A (i+1)] i G) [] n ⟨.co (rfB st),[],ex i r++st.l⟩ w1)
 (hdone: ∀(D:Nat) (w1:World) (K:List Assn),Inv N K→sat g w1 (pt D (.deferred (some []))::(K++([A N]++L)))→GS none P Q0 (dfr D::ds) n ⟨.ou .normal,st.K,st.l⟩ w1)
 (hstop: ∀(D:Nat) (w1:World) (ex:Code) (i:Nat) (K:List Assn),i<N→Ex ex i K→sat g w1 (pt D (.deferred (some []))::(K++L))→GS none P Q0 (dfr D::ds) n ⟨.co ex,st.K,st.l⟩ w1)
 (hx:fe n st.l (rfX st)= .func (.func gf) #[] cap.toArray:=by kernel_rfl)(ha: ∀i,rf2C n st (xs i)=true:=by intro _;kernel_rfl):GS none P Q0 ds n st w:=by
 obtain⟨p,K,l⟩:=st
 cases p with
 |co c=>
  cases c with
  |rangeFunc x ps asg bd=>
   have ok: ∀i,okT n ps.toList (xs i)=true:=fun i=>by
    have h:=ha i
    simp only[rf2C,Bool.and_eq_true] at h
    exact h.2
   refine⟨gi_rf2A (fun i=>rfL ps.toList (xs i) l) (fun i r=>ex i r++l) Mid Inv Ex rfl hx eg hit h0 hs (fun i _=> ?_) (fun i _=> ?_) ?_ ?_ ?_ ?_⟩
   · rw[okT_len (ok i),Array.length_toList]
   · have h:=foldT (l:=l) (ok i)
     rw[mkd_tmps]
     simpa using h
   · intro i hi lp w1 K1 G hK h1
     exact(hasg i hi lp w1 K1 G hK h1).out
   · intro i hi lp w1 r K1 G hK h1
     exact(hbody i hi lp w1 r K1 G hK h1).out
   · intro D w1 K1 hK h1
     exact(hdone D w1 K1 hK h1).out
   · intro D w1 ex i K1 hi hE h1
     exact(hstop D w1 ex i K1 hi hE h1).out
  |_=>have h:=ha 0;simp[rf2C,isRF] at h
 |_=>have h:=ha 0;simp[rf2C,isRF] at h
theorem rfS2{At:List Assn}(ex:Nat→Nat→Fr)(Mid:Nat→Nat→List Assn→Prop)(Inv:Nat→List Assn→Prop)(Ex:Code→Nat→List Assn→Prop)(eg: ∀a w,(callFunc gf a).run P w= .ok (.enter gf a) w)(hit:IT P gf cap N xs At)(h0:Inv 0 K0)(hs:sat g w (K0++(At++L)))
 (hasg: ∀i,i<N→ ∀(lp:Nat) (w1:World) (K:List Assn) (G:Assn),Inv i K→sat g w1 (K++(At++ [G]))→GS (some lp) P (Exit.then (fun a w2=> ∃r K2,a=mk n (ex i r++st.l)∧Mid i r K2∧sat g w2 (K2++(At++ [G]))) (fun _ _ _=>False)) [] n ⟨.co (rfA st),[],rfL (rfP st).toList (xs i) st.l⟩ w1)
 (hbody: ∀i,i<N→ ∀(lp:Nat) (w1:World) (r:Nat) (K:List Assn) (G:Assn),Mid i r K→sat g w1 (K++(At++ [G]))→GS (some lp) P (RB g Inv Ex At i G) [] n ⟨.co (rfB st),[],ex i r++st.l⟩ w1)
 (hdone: ∀(D:Nat) (w1:World) (K:List Assn),Inv N K→sat g w1 (pt D (.deferred (some []))::(K++(At++L)))→GS none P Q0 (dfr D::ds) n ⟨.ou .normal,st.K,st.l⟩ w1)
 (hstop: ∀(D:Nat) (w1:World) (ex:Code) (i:Nat) (K:List Assn),i<N→Ex ex i K→sat g w1 (pt D (.deferred (some []))::(K++L))→GS none P Q0 (dfr D::ds) n ⟨.co ex,st.K,st.l⟩ w1)
 (hx:fe n st.l (rfX st)= .func (.func gf) #[] cap.toArray:=by kernel_rfl)(ha: ∀i,rf2C n st (xs i)=true:=by intro _;kernel_rfl):GS none P Q0 ds n st w:=
 rfS2A (A:=fun _=>star At) ex Mid Inv Ex eg (ita_of hit) h0 (sat_midA.1 hs)
  (fun i hi lp w1 K G hK h=>⟨((hasg i hi lp w1 K G hK (sat_midA.2 h)).out).mono fun e a w2 hq=>by
   cases e with
   |normal=>obtain⟨r,K2,h1,h2,h3⟩:=hq;exact⟨r,K2,h1,h2,sat_midA.1 h3⟩
   |_=>exact hq⟩)
  (fun i hi lp w1 r K G hK h=>⟨((hbody i hi lp w1 r K G hK (sat_midA.2 h)).out).mono rb_mid⟩)
  (fun D w1 K hK h=>hdone D w1 K hK ((sat_midA (K:=pt D (.deferred (some []))::K)).2 h)) hstop hx ha
def endQ1(P:Program)(fn:Func)(n:Nat)(st:Sx)(vs:List Value):Option (Value×List (Addr×Value)):=match st.p,st.K with
 | .ou .ret,[]=>ansL P (resF fn n st.l) vs
 |_,_=>none
theorem enD{fn:Func}{m D:Nat}{R:Ending→World→Prop}(v:Value)(hs:sat g w (pt D (.deferred (some []))::L))(its: ∀w',sat g w' (pt D (.deferred none)::L)→List (Iq w'))(hR: ∀w',sat g w' (pt D (.deferred none)::L)→R (.returned v) w')
 (vs:List Value)(ls:List (Addr×Value))(h:endQ1 P fn n st vs=some (v,ls):=by kernel_rfl)(hv: ∀w' h',itR (its w' h')=ls:=by intro _ _;kernel_rfl):GS none P (PostM m P fn R) [dfr D] n st w:=by
 obtain⟨p,K,l⟩:=st
 unfold endQ1 at h
 split at h
 · rename_i e1 e2
   simp only at e1 e2
   subst e1
   subst e2
   exact⟨hi_out1 hs vs v ls h fun w' h'=>⟨hv w' h'▸allQ_mem (itR_all (its w' h')),hR w' h'⟩⟩
 · cases h
end
end Go.Proofs.YtcgkoffnknpgjaaGreatDoor
