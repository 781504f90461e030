/-
  The rules for what acts, for ways in and out, for loops and for joins, over states. No program in sight.
-/
import Derived.Test.YtcgkoffnknpgjaaGreatDoorRun
import Derived.Test.YtcgkoffnknpgjaaGreatDoorStr
namespace Go.Proofs.YtcgkoffnknpgjaaGreatDoor
set_option linter.unusedVariables false
set_option linter.unusedSimpArgs false
def opS(st:Sx):Oper:=match st.p with
 | .rg _ ops (i::_)=>opA ops i
 | .dr _ ops (.an i _) _=>opA ops i
 | .dr _ ops (.fl i _) _=>opA ops i
 |_=>default
def nxP(st:Sx):Ps:=match st.p with
 | .rg id ops (_::is)=> .rg id ops is
 | .dr id ops (.an i t) pts=> .dr id ops t (keepP ops i pts)
 |p=>p
def kpS(st:Sx):List Pt:=match st.p with
 | .dr _ ops (.an i _) pts=>keepP ops i pts
 |_=> []
def actC(n:Nat)(st:Sx):Bool:=match st.p with
 | .rg _ ops (i::_)=>chkA ops n st.l i
 | .dr _ ops (.an i _) _=>chkA ops n st.l i
 |_=>false
def isRg(st:Sx):Bool:=match st.p with
 | .rg _ _ _=>true
 |_=>false
def putS(st:Sx)(v:Value):Sx:=⟨nxP st,st.K,match (opS st).dst with |some d=>(d,v)::st.l|none=>st.l⟩
def dstC(n:Nat)(st:Sx):Bool:=match (opS st).dst with
 |some d=>Nat.blt d n
 |none=>true
def callC(n:Nat)(st:Sx):Option (FuncId×List Value):=cond (actC n st&&dstC n st) (match chkCall (opS st) n st.l with |some (_,f,args)=>some (f,args)|none=>none) none
def callP(n:Nat)(st:Sx):Option (FuncId×List Value):=cond (isRg st) (callC n st) none
theorem kp_rg{st:Sx}(h:isRg st=true):kpS st= []:=by
 obtain⟨p,K,l⟩:=st
 cases p<;>first|rfl |cases h
section
variable {r : Option Nat} {P : Program} {Q0 : Exit → Act → World → Prop} {ds : List Deferred} {n : Nat} {g w : World} {st : Sx} {L : List Assn}
theorem actG(hr:OP P (opS st) (mkd ds n st.l) w (fun a' w'=>AllC w' (kpS st)∧GSa r P Q0 (nxP st) st.K a' w') (KQ r P Q0 st.K))(h:actC n st=true:=by kernel_rfl):GS r P Q0 ds n st w:=by
 obtain⟨p,K,l⟩:=st
 cases p with
 |rg id ops is=>
  cases is with
  |nil=>cases h
  |cons i is=>exact⟨plain_act h ⟨Oper.wp_mono (fun _ _ h=>h.2) hr.out⟩⟩
 |dr id ops t pts=>
  cases t with
  |an i t=>exact⟨draw_act _ h rfl hr⟩
  |_=>cases h
 |_=>cases h
theorem nxG{d:Nat}{v:Value}(h:GS r P Q0 ds n (putS st v) w)(e:(opS st).dst=some d:=by kernel_rfl):GSa r P Q0 (nxP st) st.K (mkd ds n ((d,v)::st.l)) w:=by
 have h1:=h.out
 unfold putS at h1
 simp only[e] at h1
 exact h1
theorem nxN(h:GS r P Q0 ds n (putS st .nilFunc) w)(e:(opS st).dst=none:=by kernel_rfl):GSa r P Q0 (nxP st) st.K (mkd ds n st.l) w:=by
 have h1:=h.out
 unfold putS at h1
 simp only[e] at h1
 exact h1
theorem nxA{d:Nat}{v:Value}(h:GS r P Q0 ds n (putS st v) w)(e:(opS st).dst=some d:=by kernel_rfl)(hk:isRg st=true:=by kernel_rfl):AllC w (kpS st)∧GSa r P Q0 (nxP st) st.K (mkd ds n ((d,v)::st.l)) w:=⟨by rw[kp_rg hk];exact AllC_nil _,nxG h e⟩
theorem nxB(h:GS r P Q0 ds n (putS st .nilFunc) w)(e:(opS st).dst=none:=by kernel_rfl)(hk:isRg st=true:=by kernel_rfl):AllC w (kpS st)∧GSa r P Q0 (nxP st) st.K (mkd ds n st.l) w:=⟨by rw[kp_rg hk];exact AllC_nil _,nxN h e⟩
def itP{w:World}:List (Iq w)→List Pt
 | []=> []
 | .r _ i b off vs _::r=>rowP i b off vs++itP r
 | .rv _ i b off vs _ _::r=>rowP i b off vs++itP r
 | .s _ _::r=>itP r
 | .v _ _ _::r=>itP r
theorem itP_all{w:World}: ∀its:List (Iq w),AllC w (itP its)
 | []=>AllC_nil w
 | .s _ _::r=>itP_all r
 | .v _ _ _::r=>itP_all r
 | .r _ _ _ _ _ h::r=>fun q hq=>by
  rcases List.mem_append.1 hq with hq|hq
  · exact rowP_all h q hq
  · exact itP_all r q hq
 | .rv _ _ _ _ _ h _::r=>fun q hq=>by
  rcases List.mem_append.1 hq with hq|hq
  · exact rowP_all h q hq
  · exact itP_all r q hq
theorem kd{pts:List Pt}(its:List (Iq w))(h:itP its=pts:=by kernel_rfl):AllC w pts:=h▸itP_all its
theorem cG{f:FuncId}{args:List Value}{Pre F:List Assn}{Post:Value→List Assn→Prop}(hcf: ∀a w,(callFunc f a).run P w= .ok (.enter f a) w)(hT:HT P f args Pre Post)(hs:sat g w (Pre++F))
 (k: ∀v K w',Post v K→sat g w' (K++F)→AllC w' (kpS st)∧GS r P Q0 ds n (putS st v) w')(h:callC n st=some (f,args):=by kernel_rfl):GS r P Q0 ds n st w:=by
 unfold callC at h
 cases ha:actC n st with
 |false=>rw[ha] at h;cases h
 |true=>
  cases hd:dstC n st with
  |false=>rw[ha,hd] at h;cases h
  |true=>
   rw[ha,hd] at h
   simp only[Bool.and_self,cond_true] at h
   split at h
   · rename_i d f' args' hc
     obtain⟨rfl,rfl⟩:=Prod.mk.inj (Option.some.inj h)
     refine actG (an_call hc hcf hT hs fun v K w' hP h2=> ?_) ha
     obtain⟨h3,h4⟩:=k v K w' hP h2
     have hdst:(opS st).dst=d:=(run_call hc hcf w).2
     have h5:=h4.out
     unfold putS at h5
     unfold dstC at hd
     rw[hdst] at hd h5
     cases d with
     |none=>exact⟨_,rfl,h3,h5⟩
     |some d=>
      simp only at hd h5
      refine⟨(d,v)::st.l,?_,h3,h5⟩
      simp only[putF,hd,cond_true]
   · cases h
theorem cP{f:FuncId}{args:List Value}{Pre F:List Assn}{Post:Value→List Assn→Prop}(hcf: ∀a w,(callFunc f a).run P w= .ok (.enter f a) w)(hT:HT P f args Pre Post)(hs:sat g w (Pre++F))
 (k: ∀v K w',Post v K→sat g w' (K++F)→GS r P Q0 ds n (putS st v) w')(h:callP n st=some (f,args):=by kernel_rfl):GS r P Q0 ds n st w:=by
 unfold callP at h
 cases hk:isRg st with
 |false=>rw[hk] at h;cases h
 |true=>rw[hk] at h;exact cG hcf hT hs (fun v K w' a b=>⟨by rw[kp_rg hk];exact AllC_nil _,k v K w' a b⟩) h
theorem cl0{f:FuncId}{args:List Value}{Pre F:List Assn}{v0:Value}(hcf: ∀a w,(callFunc f a).run P w= .ok (.enter f a) w)(hT:HT P f args Pre fun v K=>v=v0∧K= [])(hs:sat g w (Pre++F))
(k: ∀w',sat g w' F→GS r P Q0 ds n (putS st v0) w')(h:callP n st=some (f,args):=by kernel_rfl):GS r P Q0 ds n st w:=cP hcf hT hs (fun _ _ w' ⟨hv,hK⟩ h2=>by subst hv;subst hK;exact k w' h2) h
theorem cw0{f:FuncId}{args:List Value}{Pre F:List Assn}{v0:Value}(hcf: ∀a w,(callFunc f a).run P w= .ok (.enter f a) w)(hT:HT P f args Pre fun v K=>v=v0∧K= [])(hs:sat g w (Pre++F))
(k: ∀w',sat g w' F→AllC w' (kpS st)∧GS r P Q0 ds n (putS st v0) w')(h:callC n st=some (f,args):=by kernel_rfl):GS r P Q0 ds n st w:=cG hcf hT hs (fun _ _ w' ⟨hv,hK⟩ h2=>by subst hv;subst hK;exact k w' h2) h
theorem cl1{f:FuncId}{args:List Value}{Pre F:List Assn}{v0:Value}{A:Assn}(hcf: ∀a w,(callFunc f a).run P w= .ok (.enter f a) w)(hT:HT P f args Pre fun v K=>v=v0∧K= [A])(hs:sat g w (Pre++F))
(k: ∀w',sat g w' (A::F)→GS r P Q0 ds n (putS st v0) w')(h:callP n st=some (f,args):=by kernel_rfl):GS r P Q0 ds n st w:=cP hcf hT hs (fun _ _ w' ⟨hv,hK⟩ h2=>by subst hv;subst hK;exact k w' h2) h
theorem cw1{f:FuncId}{args:List Value}{Pre F:List Assn}{v0:Value}{A:Assn}(hcf: ∀a w,(callFunc f a).run P w= .ok (.enter f a) w)(hT:HT P f args Pre fun v K=>v=v0∧K= [A])(hs:sat g w (Pre++F))
(k: ∀w',sat g w' (A::F)→AllC w' (kpS st)∧GS r P Q0 ds n (putS st v0) w')(h:callC n st=some (f,args):=by kernel_rfl):GS r P Q0 ds n st w:=cG hcf hT hs (fun _ _ w' ⟨hv,hK⟩ h2=>by subst hv;subst hK;exact k w' h2) h
theorem cl2{f:FuncId}{args:List Value}{Pre F:List Assn}{v0:Value}{A B:Assn}(hcf: ∀a w,(callFunc f a).run P w= .ok (.enter f a) w)(hT:HT P f args Pre fun v K=>v=v0∧K= [A,B])(hs:sat g w (Pre++F))
(k: ∀w',sat g w' (A::B::F)→GS r P Q0 ds n (putS st v0) w')(h:callP n st=some (f,args):=by kernel_rfl):GS r P Q0 ds n st w:=cP hcf hT hs (fun _ _ w' ⟨hv,hK⟩ h2=>by subst hv;subst hK;exact k w' h2) h
theorem cw2{f:FuncId}{args:List Value}{Pre F:List Assn}{v0:Value}{A B:Assn}(hcf: ∀a w,(callFunc f a).run P w= .ok (.enter f a) w)(hT:HT P f args Pre fun v K=>v=v0∧K= [A,B])(hs:sat g w (Pre++F))
(k: ∀w',sat g w' (A::B::F)→AllC w' (kpS st)∧GS r P Q0 ds n (putS st v0) w')(h:callC n st=some (f,args):=by kernel_rfl):GS r P Q0 ds n st w:=cG hcf hT hs (fun _ _ w' ⟨hv,hK⟩ h2=>by subst hv;subst hK;exact k w' h2) h
theorem cl3{f:FuncId}{args:List Value}{Pre F:List Assn}{v0:Value}{A B C:Assn}(hcf: ∀a w,(callFunc f a).run P w= .ok (.enter f a) w)(hT:HT P f args Pre fun v K=>v=v0∧K= [A,B,C])(hs:sat g w (Pre++F))
(k: ∀w',sat g w' (A::B::C::F)→GS r P Q0 ds n (putS st v0) w')(h:callP n st=some (f,args):=by kernel_rfl):GS r P Q0 ds n st w:=cP hcf hT hs (fun _ _ w' ⟨hv,hK⟩ h2=>by subst hv;subst hK;exact k w' h2) h
theorem cw3{f:FuncId}{args:List Value}{Pre F:List Assn}{v0:Value}{A B C:Assn}(hcf: ∀a w,(callFunc f a).run P w= .ok (.enter f a) w)(hT:HT P f args Pre fun v K=>v=v0∧K= [A,B,C])(hs:sat g w (Pre++F))
(k: ∀w',sat g w' (A::B::C::F)→AllC w' (kpS st)∧GS r P Q0 ds n (putS st v0) w')(h:callC n st=some (f,args):=by kernel_rfl):GS r P Q0 ds n st w:=cG hcf hT hs (fun _ _ w' ⟨hv,hK⟩ h2=>by subst hv;subst hK;exact k w' h2) h
theorem cl4{f:FuncId}{args:List Value}{Pre F:List Assn}{v0:Value}{A B C D:Assn}(hcf: ∀a w,(callFunc f a).run P w= .ok (.enter f a) w)(hT:HT P f args Pre fun v K=>v=v0∧K= [A,B,C,D])(hs:sat g w (Pre++F))
(k: ∀w',sat g w' (A::B::C::D::F)→GS r P Q0 ds n (putS st v0) w')(h:callP n st=some (f,args):=by kernel_rfl):GS r P Q0 ds n st w:=cP hcf hT hs (fun _ _ w' ⟨hv,hK⟩ h2=>by subst hv;subst hK;exact k w' h2) h
theorem cw4{f:FuncId}{args:List Value}{Pre F:List Assn}{v0:Value}{A B C D:Assn}(hcf: ∀a w,(callFunc f a).run P w= .ok (.enter f a) w)(hT:HT P f args Pre fun v K=>v=v0∧K= [A,B,C,D])(hs:sat g w (Pre++F))
(k: ∀w',sat g w' (A::B::C::D::F)→AllC w' (kpS st)∧GS r P Q0 ds n (putS st v0) w')(h:callC n st=some (f,args):=by kernel_rfl):GS r P Q0 ds n st w:=cG hcf hT hs (fun _ _ w' ⟨hv,hK⟩ h2=>by subst hv;subst hK;exact k w' h2) h
theorem cl5{f:FuncId}{args:List Value}{Pre F:List Assn}{v0:Value}{A B C D E:Assn}(hcf: ∀a w,(callFunc f a).run P w= .ok (.enter f a) w)(hT:HT P f args Pre fun v K=>v=v0∧K= [A,B,C,D,E])(hs:sat g w (Pre++F))
(k: ∀w',sat g w' (A::B::C::D::E::F)→GS r P Q0 ds n (putS st v0) w')(h:callP n st=some (f,args):=by kernel_rfl):GS r P Q0 ds n st w:=cP hcf hT hs (fun _ _ w' ⟨hv,hK⟩ h2=>by subst hv;subst hK;exact k w' h2) h
theorem cw5{f:FuncId}{args:List Value}{Pre F:List Assn}{v0:Value}{A B C D E:Assn}(hcf: ∀a w,(callFunc f a).run P w= .ok (.enter f a) w)(hT:HT P f args Pre fun v K=>v=v0∧K= [A,B,C,D,E])(hs:sat g w (Pre++F))
(k: ∀w',sat g w' (A::B::C::D::E::F)→AllC w' (kpS st)∧GS r P Q0 ds n (putS st v0) w')(h:callC n st=some (f,args):=by kernel_rfl):GS r P Q0 ds n st w:=cG hcf hT hs (fun _ _ w' ⟨hv,hK⟩ h2=>by subst hv;subst hK;exact k w' h2) h
theorem cl6{f:FuncId}{args:List Value}{Pre F:List Assn}{v0:Value}{A B C D E G:Assn}(hcf: ∀a w,(callFunc f a).run P w= .ok (.enter f a) w)(hT:HT P f args Pre fun v K=>v=v0∧K= [A,B,C,D,E,G])(hs:sat g w (Pre++F))
(k: ∀w',sat g w' (A::B::C::D::E::G::F)→GS r P Q0 ds n (putS st v0) w')(h:callP n st=some (f,args):=by kernel_rfl):GS r P Q0 ds n st w:=cP hcf hT hs (fun _ _ w' ⟨hv,hK⟩ h2=>by subst hv;subst hK;exact k w' h2) h
theorem cw6{f:FuncId}{args:List Value}{Pre F:List Assn}{v0:Value}{A B C D E G:Assn}(hcf: ∀a w,(callFunc f a).run P w= .ok (.enter f a) w)(hT:HT P f args Pre fun v K=>v=v0∧K= [A,B,C,D,E,G])(hs:sat g w (Pre++F))
(k: ∀w',sat g w' (A::B::C::D::E::G::F)→AllC w' (kpS st)∧GS r P Q0 ds n (putS st v0) w')(h:callC n st=some (f,args):=by kernel_rfl):GS r P Q0 ds n st w:=cG hcf hT hs (fun _ _ w' ⟨hv,hK⟩ h2=>by subst hv;subst hK;exact k w' h2) h
def newC(P:Program)(n:Nat)(st:Sx)(r:Nat):Option (Value×Obj):=cond (actC n st&&dstC n st) (match ansN P (execOp (fe n st.l) (opS st)) r,(opS st).dst with |some (.value v,o),some _=>some (v,o)|_,_=>none) none
theorem nG(V:Nat→Value)(t:Nat)(cs:List Value)(hs:sat g w L)(k: ∀r' w',sat g w' (Cl r' cs t::L)→AllC w' (kpS st)∧GS r P Q0 ds n (putS st (V r')) w')(hr: ∀r',newC P n st r'=some (V r',.cells cs.toArray t (0,0)):=by intro _;kernel_rfl):GS r P Q0 ds n st w:=by
 have h0:=hr w.heap.size
 unfold newC at h0
 cases ha:actC n st with
 |false=>rw[ha] at h0;cases h0
 |true=>
  cases hd:dstC n st with
  |false=>rw[ha,hd] at h0;cases h0
  |true=>
   have hr2: ∀q,∃d,(opS st).dst=some d∧ansN P (execOp (fe n st.l) (opS st)) q=some (.value (V q),.cells cs.toArray t (0,0)):=fun q=>by
    have h1:=hr q
    unfold newC at h1
    rw[ha,hd] at h1
    simp only[Bool.and_self,cond_true] at h1
    split at h1
    · rename_i v o d e1 e2
      obtain⟨rfl,rfl⟩:=Prod.mk.inj (Option.some.inj h1)
      exact⟨d,e2,e1⟩
    · cases h1
   obtain⟨d,hdst,_⟩:=hr2 w.heap.size
   unfold dstC at hd
   rw[hdst] at hd
   refine actG (an_new (d:=d) V (fun _=> .cells cs.toArray t (0,0)) (fun q=>(hr2 q).choose_spec.2) hdst hd hs fun r' w' h2=> ?_) ha
   obtain⟨h3,h4⟩:=k r' w' h2
   exact⟨h3,nxG h4 hdst⟩
theorem nP(t:Nat)(cs:List Value)(hs:sat g w L)(k: ∀r' w',sat g w' (Cl r' cs t::L)→GS r P Q0 ds n (putS st (pV r')) w')(hr: ∀r',newC P n st r'=some (pV r',.cells cs.toArray t (0,0)):=by intro _;kernel_rfl)(hk:isRg st=true:=by kernel_rfl):GS r P Q0 ds n st w:=
 nG pV t cs hs (fun r' w' h=>⟨by rw[kp_rg hk];exact AllC_nil _,k r' w' h⟩) hr
def stoC(P:Program)(n:Nat)(st:Sx):Option (List (Addr×Value)):=cond (actC n st) (match ansS P (execOp (fe n st.l) (opS st)),(opS st).dst with |some (.skip,q),none=>some q|_,_=>none) none
theorem sG{b:Nat}{cs:List Value}{t:TypeId}(ks:List (Nat×Value))(cs':List Value)(hs:sat g w (Cl b cs t::L))(k: ∀w',sat g w' (Cl b cs' t::L)→AllC w' (kpS st)∧GS r P Q0 ds n (putS st .nilFunc) w')(hr:stoC P n st=some (ks.map fun q=>((⟨b,q.1,none⟩:Addr),q.2)):=by kernel_rfl)
 (hk:(ks.all fun q=>Nat.blt q.1 cs.length&&q.2.oneCell')=true:=by kernel_rfl)(hcs:setL cs ks=cs':=by kernel_rfl):GS r P Q0 ds n st w:=by
 unfold stoC at hr
 cases ha:actC n st with
 |false=>rw[ha] at hr;cases hr
 |true=>
  rw[ha] at hr
  simp only[cond_true] at hr
  split at hr
  · rename_i q e1 e2
    obtain rfl:=Option.some.inj hr
    exact actG (yS ks cs' hs (fun w' h=>⟨(k w' h).1,nxN (k w' h).2 e2⟩) e1 e2 hk hcs) ha
  · cases hr
theorem sP{b:Nat}{cs:List Value}{t:TypeId}(ks:List (Nat×Value))(cs':List Value)(hs:sat g w (Cl b cs t::L))(k: ∀w',sat g w' (Cl b cs' t::L)→GS r P Q0 ds n (putS st .nilFunc) w')(hr:stoC P n st=some (ks.map fun q=>((⟨b,q.1,none⟩:Addr),q.2)):=by kernel_rfl)
 (hk:(ks.all fun q=>Nat.blt q.1 cs.length&&q.2.oneCell')=true:=by kernel_rfl)(hcs:setL cs ks=cs':=by kernel_rfl)(hg:isRg st=true:=by kernel_rfl):GS r P Q0 ds n st w:=
 sG ks cs' hs (fun w' h=>⟨by rw[kp_rg hg];exact AllC_nil _,k w' h⟩) hr hk hcs
def lawC(n:Nat)(st:Sx):Bool:=match st.p with
 | .rg _ ops (i::_)=>(match (opA ops i).dst with |some d=>chkW ops n st.l i d|none=>false)
 | .dr _ ops (.fl i _) _=>(match (opA ops i).dst with |some d=>chkW ops n st.l i d|none=>false)
 |_=>false
def nxL(st:Sx)(ls:List (Addr×Value)):Ps:=match st.p with
 | .rg id ops (_::is)=> .rg id ops is
 | .dr id ops (.fl i t) pts=> .dr id ops t (ls.map (fun q=>(i,q.1,q.2))++pts)
 |p=>p
def putL(st:Sx)(v:Value)(ls:List (Addr×Value)):Sx:=⟨nxL st ls,st.K,match (opS st).dst with |some d=>(d,v)::st.l|none=>st.l⟩
theorem lwD(v:Value)(ls:List (Addr×Value))(hrun: ∀w',(∀q∈ls,w'.cell? q.1=some q.2)→(execOp (fe n st.l) (opS st)).run P w'= .ok (.value v) w')(hc: ∀q∈ls,w.cell? q.1=some q.2)(hr:GS r P Q0 ds n (putL st v ls) w)(h:lawC n st=true:=by kernel_rfl):GS r P Q0 ds n st w:=by
 obtain⟨p,K,l⟩:=st
 have h1:=hr.out
 cases p with
 |rg id ops is=>
  cases is with
  |nil=>cases h
  |cons i is=>
   simp only[lawC] at h
   split at h
   · rename_i d hd
     have e:opS ⟨.rg id ops (i::is),K,l⟩=opA ops i:=rfl
     unfold putL at h1
     rw[e] at hrun h1
     simp only[hd] at h1
     exact⟨plain_law d v h (hrun w hc) h1⟩
   · cases h
 |dr id ops t pts=>
  cases t with
  |fl i t=>
   simp only[lawC] at h
   split at h
   · rename_i d hd
     have e:opS ⟨.dr id ops (.fl i t) pts,K,l⟩=opA ops i:=rfl
     unfold putL at h1
     rw[e] at hrun h1
     simp only[hd] at h1
     exact⟨draw_law d v ls h hrun hc h1⟩
   · cases h
  |_=>cases h
 |_=>cases h
theorem lw(v:Value)(hrun: ∀w',(execOp (fe n st.l) (opS st)).run P w'= .ok (.value v) w')(hr:GS r P Q0 ds n (putL st v []) w)(h:lawC n st=true:=by kernel_rfl):GS r P Q0 ds n st w:=lwD v [] (fun w' _=>hrun w') (fun q hq=>by cases hq) hr h
def lawP(n:Nat)(st:Sx):Bool:=isRg st&&lawC n st
theorem lwP(v:Value)(hrun:(execOp (fe n st.l) (opS st)).run P w= .ok (.value v) w)(hr:GS r P Q0 ds n (putL st v []) w)(h:lawP n st=true:=by kernel_rfl):GS r P Q0 ds n st w:=by
 unfold lawP at h
 rw[Bool.and_eq_true] at h
 obtain⟨p,K,l⟩:=st
 have h1:=hr.out
 cases p with
 |rg id ops is=>
  cases is with
  |nil=>cases h.2
  |cons i is=>
   have h2:=h.2
   simp only[lawC] at h2
   split at h2
   · rename_i d hd
     have e:opS ⟨.rg id ops (i::is),K,l⟩=opA ops i:=rfl
     unfold putL at h1
     rw[e] at hrun h1
     simp only[hd] at h1
     exact⟨plain_law d v h2 hrun h1⟩
   · cases h2
 |_=>cases h.1
def PQ(Q:Exit→Act→World→Prop):Prop:= ∀c a d v w,Q (.panic c) (a.put d v) w→Q (.panic c) a w
theorem pqT{I:Act→World→Prop}{Q:Exit→Act→World→Prop}(h:PQ Q):PQ (Exit.then I Q):=fun c a d v w hh=>h c a d v w hh
theorem pqK(h:PQ Q0): ∀K:List Kt,PQ (KQ r P Q0 K)
 | []=>h
 | .sq _::K=>fun c a d v w hh=>pqK h K c a d v w hh
 | .bk _::K=>fun c a d v w hh=>pqK h K c a d v w hh
theorem pqP{m:Nat}{fn:Func}{R:Ending→World→Prop}:PQ (PostM m P fn R):=fun _ _ _ _ _ h=>h
def drS(st:Sx)(t:Tr):Sx:=match st.p with
 | .co (.region id ops true)=>⟨.dr id ops t [],st.K,st.l⟩
 |_=>st
def drC(P:Program)(st:Sx)(t:Tr):Bool:=match st.p with
 | .co (.region _ ops true)=>noDefer ops&&P.follows .mixedOrders&&Region.noSelect ops&&canonT ops ops.size (Array.replicate ops.size false) t
 |_=>false
theorem dw(t:Tr)(hs:sat g w L)(k: ∀w',sat g w' L→GS r P Q0 ds n (drS st t) w')(hQ:PQ Q0:=by repeat (first|exact pqP|refine pqT (I:=_) ?_|refine pqK ?_ _|exact(fun _ _ _ _ _ h=>h)))(h:drC P st t=true:=by kernel_rfl):GS r P Q0 ds n st w:=by
 obtain⟨p,K,l⟩:=st
 cases p with
 |co c=>
  cases c with
  |region id ops b=>
   cases b with
   |true=>
    simp only[drC,Bool.and_eq_true] at h
    exact⟨gi_drw t rfl h.1.1.1 h.1.1.2 h.1.2 h.2 (pqK hQ K) hs fun w' h2=>(k w' h2).out⟩
   |false=>cases h
  |_=>cases h
 |_=>cases h
def brS(q:Nat)(st:Sx):Sx:=match st.p with
 | .dr id ops (.an2 i t j u) pts=>⟨.dr id ops (match q with |0=> .an i t|_=> .an j u) pts,st.K,st.l⟩
 | .dr id ops (.an3 i t j u k x) pts=>⟨.dr id ops (match q with |0=> .an i t|1=> .an j u|_=> .an k x) pts,st.K,st.l⟩
 |_=>st
def isAn(q:Nat)(st:Sx):Bool:=match st.p with
 | .dr _ _ (.an2 _ _ _ _) _=>Nat.beq q 2
 | .dr _ _ (.an3 _ _ _ _ _ _) _=>Nat.beq q 3
 |_=>false
theorem br2(h0:GS r P Q0 ds n (brS 0 st) w)(h1:GS r P Q0 ds n (brS 1 st) w)(h:isAn 2 st=true:=by kernel_rfl):GS r P Q0 ds n st w:=by
 obtain⟨p,K,l⟩:=st
 cases p with
 |dr id ops t pts=>
  cases t with
  |an2 i t j u=>exact⟨h0.out,h1.out⟩
  |_=>cases h
 |_=>cases h
def skC(n:Nat)(st:Sx):Bool:=match st.p with
 | .dr _ ops (.an i _) _=>(match chkN ops n st.l i with |some d=>(match putF n st.l d undef,d,(opA ops i).dst with |some _,some a,some b=>Nat.beq a b|some _,none,none=>true|_,_,_=>false)|none=>false)
 |_=>false
theorem dsk(its:List (Iq w))(hr:GS r P Q0 ds n (putS st undef) w)(hk:itP its=kpS st:=by kernel_rfl)(h:skC n st=true:=by kernel_rfl):GS r P Q0 ds n st w:=by
 have hc:AllC w (kpS st):=hk▸itP_all its
 obtain⟨p,K,l⟩:=st
 have h1:=hr.out
 cases p with
 |dr id ops t pts=>
  cases t with
  |an i t=>
   simp only[skC] at h
   split at h
   · rename_i d e1
     have e:(putS ⟨.dr id ops (.an i t) pts,K,l⟩ undef).l=match (opA ops i).dst with |some d=>(d,undef)::l|none=>l:=rfl
     split at h
     · rename_i l2 a b e3 e2
       rw[e,e3] at h1
       have hab:=Nat.eq_of_beq_eq_true h
       subst hab
       refine⟨draw_skip _ e1 rfl e2 hc ?_⟩
       have:l2=(a,undef)::l:=by
        simp only[putF] at e2
        cases hb:Nat.blt a n with
        |true=>rw[hb] at e2;exact(Option.some.inj e2).symm
        |false=>rw[hb] at e2;cases e2
       rw[this]
       exact h1
     · rename_i l2 e3 e2
       rw[e,e3] at h1
       refine⟨draw_skip _ e1 rfl e2 hc ?_⟩
       have:l2=l:=(Option.some.inj e2).symm
       rw[this]
       exact h1
     · cases h
   · cases h
  |_=>cases h
 |_=>cases h
def lpB(st:Sx):Code:=match st.p with
 | .co (.loop x)=>x
 |_=> .skip
def isLp(st:Sx):Bool:=match st.p with
 | .co (.loop _)=>true
 |_=>false
theorem lpS(I:Nat→Act→World→Prop)(n0:Nat)(h0:I n0 (mkd ds n st.l) w)(round: ∀k a w,I k a w→GSa r P (Exit.then (fun a' w'=> ∃n',n'<k∧I n' a' w') (KQ r P Q0 st.K)) (.co (lpB st)) [] a w)(h:isLp st=true:=by kernel_rfl):GS r P Q0 ds n st w:=by
 obtain⟨p,K,l⟩:=st
 cases p with
 |co c=>
  cases c with
  |loop x=>exact⟨gi_lp rfl I n0 h0 fun k a w hI=>round k a w hI⟩
  |_=>cases h
 |_=>cases h
theorem ga{p:Ps}{K:List Kt}{l:Fr}(h:GS r P Q0 ds n ⟨p,K,l⟩ w):GSa r P Q0 p K (mkd ds n l) w:=h.out
def isNm(st:Sx):Bool:=match st.p,st.K with
 | .ou .normal,[]=>true
 |_,_=>false
theorem enL{I:Act→World→Prop}{Q:Exit→Act→World→Prop}(h:I (mkd ds n st.l) w)(e:isNm st=true:=by kernel_rfl):GS r P (Exit.then I Q) ds n st w:=by
 obtain⟨p,K,l⟩:=st
 unfold isNm at e
 split at e
 · rename_i e1 e2
   simp only at e1 e2
   subst e1
   subst e2
   exact⟨h⟩
 · cases e
def upS(st:Sx)(K:List Kt):Sx:=⟨st.p,K,st.l⟩
def isUp(st:Sx):Bool:=match st.p,st.K with
 | .ou (.exit _),[]=>true
 | .ou .ret,[]=>true
 |_,_=>false
theorem up{I:Act→World→Prop}{K:List Kt}(h:GS r P Q0 ds n (upS st K) w)(e:isUp st=true:=by kernel_rfl):GS r P (Exit.then I (KQ r P Q0 K)) ds n st w:=by
 obtain⟨p,K',l⟩:=st
 have h1:=h.out
 unfold isUp at e
 split at e
 · rename_i e1 e2
   simp only at e1 e2
   subst e1
   subst e2
   exact⟨h1⟩
 · rename_i e1 e2
   simp only at e1 e2
   subst e1
   subst e2
   exact⟨h1⟩
 · cases e
theorem unS(k:Nat)(h':GS r P (Exit.then (Un r P (lpB st) (KQ r P Q0 st.K) k) (KQ r P Q0 st.K)) ds n ⟨.co (lpB st),[],st.l⟩ w)(h:isLp st=true:=by kernel_rfl):GS r P Q0 ds n st w:=by
 obtain⟨p,K,l⟩:=st
 cases p with
 |co c=>
  cases c with
  |loop x=>exact⟨gi_unr (k+1) rfl h'.out⟩
  |_=>cases h
 |_=>cases h
theorem unN{x:Code}{k:Nat}{Q:Exit→Act→World→Prop}(h':GS r P (Exit.then (Un r P x Q k) Q) ds n ⟨.co x,[],st.l⟩ w)(e:isNm st=true:=by kernel_rfl):GS r P (Exit.then (Un r P x Q (k+1)) Q) ds n st w:=enL h'.out e
def sqA(st:Sx):Code:=match st.p with
 | .co (.seq x _)=>x
 |_=> .skip
def sqB(st:Sx):Code:=match st.p with
 | .co (.seq _ y)=>y
 |_=> .skip
def isSq(st:Sx):Bool:=match st.p with
 | .co (.seq _ _)=>true
 |_=>false
theorem jnS(J:Act→World→Prop)(hx:GS r P (Exit.then J (KQ r P Q0 st.K)) ds n ⟨.co (sqA st),[],st.l⟩ w)(hy: ∀a w,J a w→GSa r P Q0 (.co (sqB st)) st.K a w)(h:isSq st=true:=by kernel_rfl):GS r P Q0 ds n st w:=by
 obtain⟨p,K,l⟩:=st
 cases p with
 |co c=>
  cases c with
  |seq x y=>exact⟨gi_join J rfl hx.out fun a w hJ=>hy a w hJ⟩
  |_=>cases h
 |_=>cases h
inductive Fe where
 |k (i:Nat) (v:Value)
 |o (i:Nat) (e:Ov)
def feF:List Fe→Fr
 | []=> []
 | .k i v::r=>(i,v)::feF r
 | .o i e::r=>(i,e.v)::feF r
def feC(l:Fr):List Fe→List Value
 | []=> []
 | .k i _::r=>lk l i::feC l r
 | .o i _::r=>lk l i::feC l r
def feV:List Fe→List Value
 | []=> []
 | .k _ v::r=>v::feV r
 | .o _ e::r=>e.u::feV r
theorem fe_lk{l:Fr}: ∀ {fs:List Fe},feC l fs=feV fs→AllLk l (feF fs)
 | [],_=>trivial
 | .k _ _::_,h=>⟨(List.cons.inj h).1,fe_lk (List.cons.inj h).2⟩
 | .o _ e::_,h=>⟨(List.cons.inj h).1.trans e.h,fe_lk (List.cons.inj h).2⟩
theorem lvF{l:Fr}(fs:List Fe)(h:feC l fs=feV fs:=by kernel_rfl):mkd ds n l=mkd ds n (feF fs++l):=mk_live _ (fe_lk h)
end
theorem hiS{P:Program}{f:FuncId}{fn:Func}{args:List Value}{Pre:List Assn}{Post:Value→List Assn→Prop}{n:Nat}(hf:P.funcs[f]? =some fn)(hn:fn.ntmps=n)
 (h: ∀(g w:World) (R:Assn),sat g w (Pre++ [R])→GS none P (PostM 0 P fn fun e w'=> ∃v K,e= .returned v∧Post v K∧sat g w' (K++ [R])) [] n ⟨.co (CA fn []),[],enumF args 0⟩ w)(hb:fn.body=some (CA fn []):=by kernel_rfl)(ha:Nat.ble args.length n=true:=by kernel_rfl):HT P f args Pre Post:=
 hi_in n (enumF args 0) hf hb hn ha rfl fun g w R hs=>(h g w R hs).out
def itV{w:World}:List (Iq w)→List Value
 | []=> []
 | .r _ _ _ _ vs _::r=>vs++itV r
 | .rv _ _ _ _ vs _ _::r=>vs++itV r
 | .s _ _::r=>itV r
 | .v _ _ _::r=>itV r
def endQ(P:Program)(fn:Func)(n:Nat)(st:Sx)(vs:List Value):Option (Value×List (Addr×Value)):=match st.p,st.K with
 | .ou .ret,[]=>ansL P (resF fn n st.l) vs
 | .ou .normal,[]=>ansL P (resF fn n st.l) vs
 |_,_=>none
theorem en{r:Option Nat}{P:Program}{fn:Func}{m n:Nat}{R:Ending→World→Prop}{st:Sx}{w:World}(v:Value)(its:List (Iq w))(hR:R (.returned v) w)(h:endQ P fn n st (itV its)=some (v,itR its):=by kernel_rfl):GS r P (PostM m P fn R) [] n st w:=by
 obtain⟨p,K,l⟩:=st
 unfold endQ at h
 split at h
 · rename_i e1 e2
   simp only at e1 e2
   subst e1
   subst e2
   exact⟨hi_out (m:=m) _ _ _ h (allQ_mem (itR_all its)) hR⟩
 · rename_i e1 e2
   simp only at e1 e2
   subst e1
   subst e2
   exact⟨hi_outn (m:=m) _ _ _ h (allQ_mem (itR_all its)) hR⟩
 · cases h
section
variable {r : Option Nat} {P : Program} {Q0 : Exit → Act → World → Prop} {ds : List Deferred} {n : Nat} {g w : World} {st : Sx} {L : List Assn}
theorem g0(hr:GS r P Q0 ds n (simS P n st (imsOf (w:=w) [])) w)(h:simC P n st (imsOf (w:=w) [])=(itR (w:=w) [],itE (w:=w) []):=by kernel_rfl):GS r P Q0 ds n st w:=go ([]) hr h
theorem sA{b:Nat}{cs:List Value}{t:TypeId}(cs':List Value)(hs:sat g w (Cl b cs t::L))(k: ∀w',sat g w' (Cl b cs' t::L)→GS r P Q0 ds n (putS st .nilFunc) w')(hr:stoC P n st=some ((enumF cs' 0).map fun q=>((⟨b,q.1,none⟩:Addr),q.2)):=by kernel_rfl)
(hk:((enumF cs' 0).all fun q=>Nat.blt q.1 cs.length&&q.2.oneCell')=true:=by kernel_rfl)(hcs:setL cs (enumF cs' 0)=cs':=by kernel_rfl)(hg:isRg st=true:=by kernel_rfl):GS r P Q0 ds n st w:=sP (enumF cs' 0) cs' hs k hr hk hcs hg
theorem sB{b:Nat}{cs:List Value}{t:TypeId}(cs':List Value)(hs:sat g w (Cl b cs t::L))(k: ∀w',sat g w' (Cl b cs' t::L)→AllC w' (kpS st)∧GS r P Q0 ds n (putS st .nilFunc) w')(hr:stoC P n st=some ((enumF cs' 0).map fun q=>((⟨b,q.1,none⟩:Addr),q.2)):=by kernel_rfl)
(hk:((enumF cs' 0).all fun q=>Nat.blt q.1 cs.length&&q.2.oneCell')=true:=by kernel_rfl)(hcs:setL cs (enumF cs' 0)=cs':=by kernel_rfl):GS r P Q0 ds n st w:=sG (enumF cs' 0) cs' hs k hr hk hcs
theorem enN{I:Nat→Act→World→Prop}{k:Nat}{Q:Exit→Act→World→Prop}(m:Nat)(h:I m (mkd ds n st.l) w)(hm:m<k:=by omega)(e:isNm st=true:=by kernel_rfl):GS r P (Exit.then (fun a' w'=> ∃n',n'<k∧I n' a' w') Q) ds n st w:=enL ⟨m,hm,h⟩ e
theorem enR{fn:Func}{m:Nat}{v0:Value}{K0:List Assn}{R0:Assn}(v:Value)(its:List (Iq w))(hs:sat g w (K0++ [R0]))(hv:v=v0:=by rfl)(h:endQ P fn n st (itV its)=some (v,itR its):=by kernel_rfl):
 GS r P (PostM m P fn fun e w'=> ∃v K,e= .returned v∧(v=v0∧K=K0)∧sat g w' (K++ [R0])) [] n st w:=en v its ⟨_,_,rfl,⟨hv,rfl⟩,hs⟩ h
end
section
variable {P : Program} {n : Nat} {l : Fr} {o : Oper} {w : World} {t e : Nat}
theorem liP(x i:Operand)(p:Option Addr)(b off:Nat)(z:Int)(len cap:Nat)(ht:P.underlying t=some (.slice e))(sz k:Nat)(hp:p=some ⟨b,off,none⟩)(off':Nat)(ho:o.op= .indexAddr t x i:=by kernel_rfl)(hs:(P.info? e).map (·.size)=some sz:=by kernel_rfl)
(hx:fe n l x= .slice p len cap:=by kernel_rfl)(hi:fe n l i= .int .i64 z:=by kernel_rfl)(hz:z=(k:Int):=by omega)(hk:k<len:=by omega)(he:off+k*sz=off':=by omega):(execOp (fe n l) o).run P w= .ok (.value (.pointer (some ⟨b,off',none⟩))) w:=law_indexSlP ho ht sz hs k hx hp hi hz hk off' he w
theorem liS(x i:Operand)(b off:Nat)(z:Int)(len cap:Nat)(ht:P.underlying t=some (.slice e))(sz k off':Nat)(ho:o.op= .indexAddr t x i:=by kernel_rfl)(hs:(P.info? e).map (·.size)=some sz:=by kernel_rfl)
(hx:fe n l x= .slice (some ⟨b,off,none⟩) len cap:=by kernel_rfl)(hi:fe n l i= .int .i64 z:=by kernel_rfl)(hz:z=(k:Int):=by omega)(hk:k<len:=by omega)(he:off+k*sz=off':=by omega):(execOp (fe n l) o).run P w= .ok (.value (.pointer (some ⟨b,off',none⟩))) w:=law_indexSl ho ht sz hs k hx hi hz hk off' he w
end
section
variable {α : Type} {g w : World} {L : List Assn}
theorem gvc(j:Nat)(hs:sat g w L){e sz n c:Nat}{p:Option Addr}{f:α→List Value}{M:List α}(hj:L[j]? =some (Sl e sz p n c (fl f M))){b off i:Nat}{x:α}(hp:p=some ⟨b,off,none⟩)(E:Enc sz f)(q:Nat)(v:Value)(hx:M[i]? =some x)(o:Nat)
(hv:(f x)[q]? =some v:=by rfl)(ho:off+(i*sz+q)=o:=by omega):w.cell? ⟨b,o,none⟩=some v:=gv_cell hs hj (gv_sl _ _ _) hp (fl_get E hx hv) o ho
theorem gX(M:List α)(k:Nat)(h:k<M.length): ∃x,M[k]? =some x:=⟨_,List.getElem?_eq_getElem h⟩
end
section
variable {P : Program} {Q : Exit → Act → World → Prop} {g w : World} {L : List Assn} {n : Nat} {l : Fr} {o : Oper} {ds : List Deferred} {N : Act → World → Prop}
theorem aG(d sz:Nat)(s x:Operand)(z:Value)(p p2:Option Addr)(m c k c2 by_:Nat){t e:Nat}(ht:P.underlying t=some (.slice e)){cs:List Value}(hs:sat g w (Sl e sz p m c cs::L)){A:Assn}(j:Nat)(hj:(Sl e sz p m c cs::L)[j]? =some A)
(ys:List Value)(hg:Gv A p2 k ys)(hl:ys.length=k*sz)(h1: ∀u∈ys,u.oneCell')(q:Nat)(h: ∀p' c' w',sat g w' (Sl e sz p' q c' (cs++ys)::L)→N (mkd ds n ((d,.slice p' q c')::l)) w')
(ho:o.op= .call {callee:= .builtin .append,args:= #[s,x],argTypes:= #[t,t]}:=by kernel_rfl)(hd:o.dst=some d:=by kernel_rfl)(hn:Nat.blt d n=true:=by rfl)(hi:(P.info? e).map (fun i=>(i.zero,i.size,i.bytes))=some (some z,sz,by_):=by kernel_rfl)
(hzs:z.cells.size=sz:=by rfl)(hsz:0<sz:=by decide)(hsv:fe n l s= .slice p m c:=by kernel_rfl)(hxv:fe n l x= .slice p2 k c2:=by kernel_rfl)(h63:m+k≤9223372036854775807:=by omega)(hby:(m+k)*by_≤140737488355328:=by omega)(hmk:m+k=q:=by omega):
 OP P o (mkd ds n l) w N Q:=an_append_gv ho hd hn ht hi hzs hsz hsv hxv hs j hj ys hg hl h1 h63 hby q hmk h
theorem aA(d sz:Nat)(s x:Operand)(z:Value)(p:Option Addr)(m c k c2:Nat)(a:Addr)(by_:Nat){t e:Nat}(ht:P.underlying t=some (.slice e)){cs:List Value}(hs:sat g w (Sl e sz p m c cs::L))
(ys:List Value)(hl:ys.length=k*sz)(hy: ∀j u,ys[j]? =some u→w.cell? (a.add j)=some u)(h1: ∀u∈ys,u.oneCell')(q:Nat)(h: ∀p' c' w',sat g w' (Sl e sz p' q c' (cs++ys)::L)→N (mkd ds n ((d,.slice p' q c')::l)) w')
(ho:o.op= .call {callee:= .builtin .append,args:= #[s,x],argTypes:= #[t,t]}:=by kernel_rfl)(hd:o.dst=some d:=by kernel_rfl)(hn:Nat.blt d n=true:=by rfl)(hi:(P.info? e).map (fun i=>(i.zero,i.size,i.bytes))=some (some z,sz,by_):=by kernel_rfl)
(hzs:z.cells.size=sz:=by rfl)(hsz:0<sz:=by decide)(hsv:fe n l s= .slice p m c:=by kernel_rfl)(hxv:fe n l x= .slice (some a) k c2:=by kernel_rfl)(h63:m+k≤9223372036854775807:=by omega)(hby:(m+k)*by_≤140737488355328:=by omega)(hmk:m+k=q:=by omega):
 OP P o (mkd ds n l) w N Q:=an_append ho hd hn ht hi hzs hsz hsv hxv hs ys hl hy h1 h63 hby q hmk h
theorem cell1{b:Nat}{A:Assn}{cs:List Value}{t:Nat}(h:sat g w (A::Cl b cs t::L)){ys:List Value}(hy:ys=cs): ∀j u,ys[j]? =some u→w.cell? ((⟨b,0,none⟩:Addr).add j)=some u:=fun j u hj=>by
 subst hy
 rw[add_off]
 exact sat_cell h 1 rfl (by rw[Nat.zero_add];exact hj)
end
end Go.Proofs.YtcgkoffnknpgjaaGreatDoor
