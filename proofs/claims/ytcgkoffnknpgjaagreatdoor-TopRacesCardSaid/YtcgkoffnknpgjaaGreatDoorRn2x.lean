/-
  The rules for what acts, for ways in and out, for loops and for joins, over states. No program in sight.
-/
import Derived.Test.YtcgkoffnknpgjaaGreatDoorRunx
import Derived.Test.YtcgkoffnknpgjaaGreatDoorStrx
namespace Go.Proofs.YtcgkoffnknpgjaaGreatDoor
set_option linter.unusedVariables false
set_option linter.unusedSimpArgs false
def Jb(st:Sx):Oper:=match st.p with
 | .rg _ ops (i::_)=>EV ops i
 | .dr _ ops (.an i _) _=>EV ops i
 | .dr _ ops (.fl i _) _=>EV ops i
 |_=>default
def rX(st:Sx):Ps:=match st.p with
 | .rg id ops (_::is)=> .rg id ops is
 | .dr id ops (.an i t) pts=> .dr id ops t (CK ops i pts)
 |p=>p
def O8(st:Sx):List Pt:=match st.p with
 | .dr _ ops (.an i _) pts=>CK ops i pts
 |_=> []
def M6(n:Nat)(st:Sx):Bool:=match st.p with
 | .rg _ ops (i::_)=>Gr ops n st.l i
 | .dr _ ops (.an i _) _=>Gr ops n st.l i
 |_=>false
def M7(st:Sx):Bool:=match st.p with
 | .rg _ _ _=>true
 |_=>false
def C9(st:Sx)(v:Value):Sx:=⟨rX st,st.K,match (Jb st).dst with |some d=>(d,v)::st.l|none=>st.l⟩
def M8(n:Nat)(st:Sx):Bool:=match (Jb st).dst with
 |some d=>Nat.blt d n
 |none=>true
def HG(n:Nat)(st:Sx):Option (FuncId×List Value):=cond (M6 n st&&M8 n st) (match D8 (Jb st) n st.l with |some (_,f,args)=>some (f,args)|none=>none) none
def HH(n:Nat)(st:Sx):Option (FuncId×List Value):=cond (M7 st) (HG n st) none
theorem O9{st:Sx}(h:M7 st=true):O8 st= []:=by
 obtain⟨p,K,l⟩:=st
 cases p<;>first|rfl |cases h
section
variable {r : Option Nat} {P : Program} {Q0 : Exit → Act → World → Prop} {ds : List Deferred} {n : Nat} {g w : World} {st : Sx} {L : List AB}
theorem AH(hr:OP P (Jb st) (Ad ds n st.l) w (fun a' w'=>BV w' (O8 st)∧XS r P Q0 (rX st) st.K a' w') (KQ r P Q0 st.K))(h:M6 n st=true:=by kernel_rfl):GS r P Q0 ds n st w:=by
 obtain⟨p,K,l⟩:=st
 cases p with
 |rg id ops is=>
  cases is with
  |nil=>cases h
  |cons i is=>exact⟨MC h ⟨Oper.wp_mono (fun _ _ h=>h.2) hr.out⟩⟩
 |dr id ops t pts=>
  cases t with
  |an i t=>exact⟨PD _ h rfl hr⟩
  |_=>cases h
 |_=>cases h
theorem DE{d:Nat}{v:Value}(h:GS r P Q0 ds n (C9 st v) w)(e:(Jb st).dst=some d:=by kernel_rfl):XS r P Q0 (rX st) st.K (Ad ds n ((d,v)::st.l)) w:=by
 have h1:=h.out
 unfold C9 at h1
 simp only[e] at h1
 exact h1
theorem IK(h:GS r P Q0 ds n (C9 st .nilFunc) w)(e:(Jb st).dst=none:=by kernel_rfl):XS r P Q0 (rX st) st.K (Ad ds n st.l) w:=by
 have h1:=h.out
 unfold C9 at h1
 simp only[e] at h1
 exact h1
theorem B1{d:Nat}{v:Value}(h:GS r P Q0 ds n (C9 st v) w)(e:(Jb st).dst=some d:=by kernel_rfl)(hk:M7 st=true:=by kernel_rfl):BV w (O8 st)∧XS r P Q0 (rX st) st.K (Ad ds n ((d,v)::st.l)) w:=⟨by rw[O9 hk];exact Bb _,DE h e⟩
theorem Gq(h:GS r P Q0 ds n (C9 st .nilFunc) w)(e:(Jb st).dst=none:=by kernel_rfl)(hk:M7 st=true:=by kernel_rfl):BV w (O8 st)∧XS r P Q0 (rX st) st.K (Ad ds n st.l) w:=⟨by rw[O9 hk];exact Bb _,IK h e⟩
def lS{w:World}:List (Iq w)→List Pt
 | []=> []
 | .r _ i b off vs _::r=>XR i b off vs++lS r
 | .rv _ i b off vs _ _::r=>XR i b off vs++lS r
 | .s _ _::r=>lS r
 | .v _ _ _::r=>lS r
theorem GV{w:World}: ∀its:List (Iq w),BV w (lS its)
 | []=>Bb w
 | .s _ _::r=>GV r
 | .v _ _ _::r=>GV r
 | .r _ _ _ _ _ h::r=>fun q hq=>by
  rcases List.mem_append.1 hq with hq|hq
  · exact HV h q hq
  · exact GV r q hq
 | .rv _ _ _ _ _ h _::r=>fun q hq=>by
  rcases List.mem_append.1 hq with hq|hq
  · exact HV h q hq
  · exact GV r q hq
theorem kd{pts:List Pt}(its:List (Iq w))(h:lS its=pts:=by kernel_rfl):BV w pts:=h▸GV its
theorem cG{f:FuncId}{args:List Value}{Pre F:List AB}{Post:Value→List AB→Prop}(hcf: ∀a w,(callFunc f a).run P w= .ok (.enter f a) w)(hT:HT P f args Pre Post)(hs:sat g w (Pre++F))
 (k: ∀v K w',Post v K→sat g w' (K++F)→BV w' (O8 st)∧GS r P Q0 ds n (C9 st v) w')(h:HG n st=some (f,args):=by kernel_rfl):GS r P Q0 ds n st w:=by
 unfold HG at h
 cases ha:M6 n st with
 |false=>rw[ha] at h;cases h
 |true=>
  cases hd:M8 n st with
  |false=>rw[ha,hd] at h;cases h
  |true=>
   rw[ha,hd] at h
   simp only[Bool.and_self,cond_true] at h
   split at h
   · rename_i d f' args' hc
     obtain⟨rfl,rfl⟩:=Prod.mk.inj (Option.some.inj h)
     refine AH (TS hc hcf hT hs fun v K w' hP h2=> ?_) ha
     obtain⟨h3,h4⟩:=k v K w' hP h2
     have hdst:(Jb st).dst=d:=(PE hc hcf w).2
     have h5:=h4.out
     unfold C9 at h5
     unfold M8 at hd
     rw[hdst] at hd h5
     cases d with
     |none=>exact⟨_,rfl,h3,h5⟩
     |some d=>
      simp only at hd h5
      refine⟨(d,v)::st.l,?_,h3,h5⟩
      simp only[EJ,hd,cond_true]
   · cases h
theorem cP{f:FuncId}{args:List Value}{Pre F:List AB}{Post:Value→List AB→Prop}(hcf: ∀a w,(callFunc f a).run P w= .ok (.enter f a) w)(hT:HT P f args Pre Post)(hs:sat g w (Pre++F))
 (k: ∀v K w',Post v K→sat g w' (K++F)→GS r P Q0 ds n (C9 st v) w')(h:HH n st=some (f,args):=by kernel_rfl):GS r P Q0 ds n st w:=by
 unfold HH at h
 cases hk:M7 st with
 |false=>rw[hk] at h;cases h
 |true=>rw[hk] at h;exact cG hcf hT hs (fun v K w' a b=>⟨by rw[O9 hk];exact Bb _,k v K w' a b⟩) h
theorem AP{f:FuncId}{args:List Value}{Pre F:List AB}{v0:Value}(hcf: ∀a w,(callFunc f a).run P w= .ok (.enter f a) w)(hT:HT P f args Pre fun v K=>v=v0∧K= [])(hs:sat g w (Pre++F))
(k: ∀w',sat g w' F→GS r P Q0 ds n (C9 st v0) w')(h:HH n st=some (f,args):=by kernel_rfl):GS r P Q0 ds n st w:=cP hcf hT hs (fun _ _ w' ⟨hv,hK⟩ h2=>by subst hv;subst hK;exact k w' h2) h
theorem CJ{f:FuncId}{args:List Value}{Pre F:List AB}{v0:Value}(hcf: ∀a w,(callFunc f a).run P w= .ok (.enter f a) w)(hT:HT P f args Pre fun v K=>v=v0∧K= [])(hs:sat g w (Pre++F))
(k: ∀w',sat g w' F→BV w' (O8 st)∧GS r P Q0 ds n (C9 st v0) w')(h:HG n st=some (f,args):=by kernel_rfl):GS r P Q0 ds n st w:=cG hcf hT hs (fun _ _ w' ⟨hv,hK⟩ h2=>by subst hv;subst hK;exact k w' h2) h
theorem AF{f:FuncId}{args:List Value}{Pre F:List AB}{v0:Value}{A:AB}(hcf: ∀a w,(callFunc f a).run P w= .ok (.enter f a) w)(hT:HT P f args Pre fun v K=>v=v0∧K= [A])(hs:sat g w (Pre++F))
(k: ∀w',sat g w' (A::F)→GS r P Q0 ds n (C9 st v0) w')(h:HH n st=some (f,args):=by kernel_rfl):GS r P Q0 ds n st w:=cP hcf hT hs (fun _ _ w' ⟨hv,hK⟩ h2=>by subst hv;subst hK;exact k w' h2) h
theorem BZ{f:FuncId}{args:List Value}{Pre F:List AB}{v0:Value}{A:AB}(hcf: ∀a w,(callFunc f a).run P w= .ok (.enter f a) w)(hT:HT P f args Pre fun v K=>v=v0∧K= [A])(hs:sat g w (Pre++F))
(k: ∀w',sat g w' (A::F)→BV w' (O8 st)∧GS r P Q0 ds n (C9 st v0) w')(h:HG n st=some (f,args):=by kernel_rfl):GS r P Q0 ds n st w:=cG hcf hT hs (fun _ _ w' ⟨hv,hK⟩ h2=>by subst hv;subst hK;exact k w' h2) h
theorem DF{f:FuncId}{args:List Value}{Pre F:List AB}{v0:Value}{A B:AB}(hcf: ∀a w,(callFunc f a).run P w= .ok (.enter f a) w)(hT:HT P f args Pre fun v K=>v=v0∧K= [A,B])(hs:sat g w (Pre++F))
(k: ∀w',sat g w' (A::B::F)→GS r P Q0 ds n (C9 st v0) w')(h:HH n st=some (f,args):=by kernel_rfl):GS r P Q0 ds n st w:=cP hcf hT hs (fun _ _ w' ⟨hv,hK⟩ h2=>by subst hv;subst hK;exact k w' h2) h
theorem FN{f:FuncId}{args:List Value}{Pre F:List AB}{v0:Value}{A B:AB}(hcf: ∀a w,(callFunc f a).run P w= .ok (.enter f a) w)(hT:HT P f args Pre fun v K=>v=v0∧K= [A,B])(hs:sat g w (Pre++F))
(k: ∀w',sat g w' (A::B::F)→BV w' (O8 st)∧GS r P Q0 ds n (C9 st v0) w')(h:HG n st=some (f,args):=by kernel_rfl):GS r P Q0 ds n st w:=cG hcf hT hs (fun _ _ w' ⟨hv,hK⟩ h2=>by subst hv;subst hK;exact k w' h2) h
theorem IM{f:FuncId}{args:List Value}{Pre F:List AB}{v0:Value}{A B C:AB}(hcf: ∀a w,(callFunc f a).run P w= .ok (.enter f a) w)(hT:HT P f args Pre fun v K=>v=v0∧K= [A,B,C])(hs:sat g w (Pre++F))
(k: ∀w',sat g w' (A::B::C::F)→GS r P Q0 ds n (C9 st v0) w')(h:HH n st=some (f,args):=by kernel_rfl):GS r P Q0 ds n st w:=cP hcf hT hs (fun _ _ w' ⟨hv,hK⟩ h2=>by subst hv;subst hK;exact k w' h2) h
theorem L7{f:FuncId}{args:List Value}{Pre F:List AB}{v0:Value}{A B C:AB}(hcf: ∀a w,(callFunc f a).run P w= .ok (.enter f a) w)(hT:HT P f args Pre fun v K=>v=v0∧K= [A,B,C])(hs:sat g w (Pre++F))
(k: ∀w',sat g w' (A::B::C::F)→BV w' (O8 st)∧GS r P Q0 ds n (C9 st v0) w')(h:HG n st=some (f,args):=by kernel_rfl):GS r P Q0 ds n st w:=cG hcf hT hs (fun _ _ w' ⟨hv,hK⟩ h2=>by subst hv;subst hK;exact k w' h2) h
theorem IL{f:FuncId}{args:List Value}{Pre F:List AB}{v0:Value}{A B C D:AB}(hcf: ∀a w,(callFunc f a).run P w= .ok (.enter f a) w)(hT:HT P f args Pre fun v K=>v=v0∧K= [A,B,C,D])(hs:sat g w (Pre++F))
(k: ∀w',sat g w' (A::B::C::D::F)→GS r P Q0 ds n (C9 st v0) w')(h:HH n st=some (f,args):=by kernel_rfl):GS r P Q0 ds n st w:=cP hcf hT hs (fun _ _ w' ⟨hv,hK⟩ h2=>by subst hv;subst hK;exact k w' h2) h
theorem Rb{f:FuncId}{args:List Value}{Pre F:List AB}{v0:Value}{A B C D:AB}(hcf: ∀a w,(callFunc f a).run P w= .ok (.enter f a) w)(hT:HT P f args Pre fun v K=>v=v0∧K= [A,B,C,D])(hs:sat g w (Pre++F))
(k: ∀w',sat g w' (A::B::C::D::F)→BV w' (O8 st)∧GS r P Q0 ds n (C9 st v0) w')(h:HG n st=some (f,args):=by kernel_rfl):GS r P Q0 ds n st w:=cG hcf hT hs (fun _ _ w' ⟨hv,hK⟩ h2=>by subst hv;subst hK;exact k w' h2) h
theorem LK{f:FuncId}{args:List Value}{Pre F:List AB}{v0:Value}{A B C D E:AB}(hcf: ∀a w,(callFunc f a).run P w= .ok (.enter f a) w)(hT:HT P f args Pre fun v K=>v=v0∧K= [A,B,C,D,E])(hs:sat g w (Pre++F))
(k: ∀w',sat g w' (A::B::C::D::E::F)→GS r P Q0 ds n (C9 st v0) w')(h:HH n st=some (f,args):=by kernel_rfl):GS r P Q0 ds n st w:=cP hcf hT hs (fun _ _ w' ⟨hv,hK⟩ h2=>by subst hv;subst hK;exact k w' h2) h
theorem U7{f:FuncId}{args:List Value}{Pre F:List AB}{v0:Value}{A B C D E G:AB}(hcf: ∀a w,(callFunc f a).run P w= .ok (.enter f a) w)(hT:HT P f args Pre fun v K=>v=v0∧K= [A,B,C,D,E,G])(hs:sat g w (Pre++F))
(k: ∀w',sat g w' (A::B::C::D::E::G::F)→GS r P Q0 ds n (C9 st v0) w')(h:HH n st=some (f,args):=by kernel_rfl):GS r P Q0 ds n st w:=cP hcf hT hs (fun _ _ w' ⟨hv,hK⟩ h2=>by subst hv;subst hK;exact k w' h2) h
theorem cw6{f:FuncId}{args:List Value}{Pre F:List AB}{v0:Value}{A B C D E G:AB}(hcf: ∀a w,(callFunc f a).run P w= .ok (.enter f a) w)(hT:HT P f args Pre fun v K=>v=v0∧K= [A,B,C,D,E,G])(hs:sat g w (Pre++F))
(k: ∀w',sat g w' (A::B::C::D::E::G::F)→BV w' (O8 st)∧GS r P Q0 ds n (C9 st v0) w')(h:HG n st=some (f,args):=by kernel_rfl):GS r P Q0 ds n st w:=cG hcf hT hs (fun _ _ w' ⟨hv,hK⟩ h2=>by subst hv;subst hK;exact k w' h2) h
def bX(P:Program)(n:Nat)(st:Sx)(r:Nat):Option (Value×Obj):=cond (M6 n st&&M8 n st) (match Jw P (execOp (fe n st.l) (Jb st)) r,(Jb st).dst with |some (.value v,o),some _=>some (v,o)|_,_=>none) none
theorem nG(V:Nat→Value)(t:Nat)(cs:List Value)(hs:sat g w L)(k: ∀r' w',sat g w' (Cl r' cs t::L)→BV w' (O8 st)∧GS r P Q0 ds n (C9 st (V r')) w')(hr: ∀r',bX P n st r'=some (V r',.cells cs.toArray t (0,0)):=by intro _;kernel_rfl):GS r P Q0 ds n st w:=by
 have h0:=hr w.heap.size
 unfold bX at h0
 cases ha:M6 n st with
 |false=>rw[ha] at h0;cases h0
 |true=>
  cases hd:M8 n st with
  |false=>rw[ha,hd] at h0;cases h0
  |true=>
   have hr2: ∀q,∃d,(Jb st).dst=some d∧Jw P (execOp (fe n st.l) (Jb st)) q=some (.value (V q),.cells cs.toArray t (0,0)):=fun q=>by
    have h1:=hr q
    unfold bX at h1
    rw[ha,hd] at h1
    simp only[Bool.and_self,cond_true] at h1
    split at h1
    · rename_i v o d e1 e2
      obtain⟨rfl,rfl⟩:=Prod.mk.inj (Option.some.inj h1)
      exact⟨d,e2,e1⟩
    · cases h1
   obtain⟨d,hdst,_⟩:=hr2 w.heap.size
   unfold M8 at hd
   rw[hdst] at hd
   refine AH (NC (d:=d) V (fun _=> .cells cs.toArray t (0,0)) (fun q=>(hr2 q).choose_spec.2) hdst hd hs fun r' w' h2=> ?_) ha
   obtain⟨h3,h4⟩:=k r' w' h2
   exact⟨h3,DE h4 hdst⟩
theorem nP(t:Nat)(cs:List Value)(hs:sat g w L)(k: ∀r' w',sat g w' (Cl r' cs t::L)→GS r P Q0 ds n (C9 st (pV r')) w')(hr: ∀r',bX P n st r'=some (pV r',.cells cs.toArray t (0,0)):=by intro _;kernel_rfl)(hk:M7 st=true:=by kernel_rfl):GS r P Q0 ds n st w:=
 nG pV t cs hs (fun r' w' h=>⟨by rw[O9 hk];exact Bb _,k r' w' h⟩) hr
def W0(P:Program)(n:Nat)(st:Sx):Option (List (Addr×Value)):=cond (M6 n st) (match IR P (execOp (fe n st.l) (Jb st)),(Jb st).dst with |some (.skip,q),none=>some q|_,_=>none) none
theorem sG{b:Nat}{cs:List Value}{t:TypeId}(ks:List (Nat×Value))(cs':List Value)(hs:sat g w (Cl b cs t::L))(k: ∀w',sat g w' (Cl b cs' t::L)→BV w' (O8 st)∧GS r P Q0 ds n (C9 st .nilFunc) w')(hr:W0 P n st=some (ks.map fun q=>((⟨b,q.1,none⟩:Addr),q.2)):=by kernel_rfl)
 (hk:(ks.all fun q=>Nat.blt q.1 cs.length&&q.2.oneCell')=true:=by kernel_rfl)(hcs:CL cs ks=cs':=by kernel_rfl):GS r P Q0 ds n st w:=by
 unfold W0 at hr
 cases ha:M6 n st with
 |false=>rw[ha] at hr;cases hr
 |true=>
  rw[ha] at hr
  simp only[cond_true] at hr
  split at hr
  · rename_i q e1 e2
    obtain rfl:=Option.some.inj hr
    exact AH (yS ks cs' hs (fun w' h=>⟨(k w' h).1,IK (k w' h).2 e2⟩) e1 e2 hk hcs) ha
  · cases hr
theorem sP{b:Nat}{cs:List Value}{t:TypeId}(ks:List (Nat×Value))(cs':List Value)(hs:sat g w (Cl b cs t::L))(k: ∀w',sat g w' (Cl b cs' t::L)→GS r P Q0 ds n (C9 st .nilFunc) w')(hr:W0 P n st=some (ks.map fun q=>((⟨b,q.1,none⟩:Addr),q.2)):=by kernel_rfl)
 (hk:(ks.all fun q=>Nat.blt q.1 cs.length&&q.2.oneCell')=true:=by kernel_rfl)(hcs:CL cs ks=cs':=by kernel_rfl)(hg:M7 st=true:=by kernel_rfl):GS r P Q0 ds n st w:=
 sG ks cs' hs (fun w' h=>⟨by rw[O9 hg];exact Bb _,k w' h⟩) hr hk hcs
def U8(n:Nat)(st:Sx):Bool:=match st.p with
 | .rg _ ops (i::_)=>(match (EV ops i).dst with |some d=>PC ops n st.l i d|none=>false)
 | .dr _ ops (.fl i _) _=>(match (EV ops i).dst with |some d=>PC ops n st.l i d|none=>false)
 |_=>false
def nxL(st:Sx)(ls:List (Addr×Value)):Ps:=match st.p with
 | .rg id ops (_::is)=> .rg id ops is
 | .dr id ops (.fl i t) pts=> .dr id ops t (ls.map (fun q=>(i,q.1,q.2))++pts)
 |p=>p
def U9(st:Sx)(v:Value)(ls:List (Addr×Value)):Sx:=⟨nxL st ls,st.K,match (Jb st).dst with |some d=>(d,v)::st.l|none=>st.l⟩
theorem lwD(v:Value)(ls:List (Addr×Value))(hrun: ∀w',(∀q∈ls,w'.cell? q.1=some q.2)→(execOp (fe n st.l) (Jb st)).run P w'= .ok (.value v) w')(hc: ∀q∈ls,w.cell? q.1=some q.2)(hr:GS r P Q0 ds n (U9 st v ls) w)(h:U8 n st=true:=by kernel_rfl):GS r P Q0 ds n st w:=by
 obtain⟨p,K,l⟩:=st
 have h1:=hr.out
 cases p with
 |rg id ops is=>
  cases is with
  |nil=>cases h
  |cons i is=>
   simp only[U8] at h
   split at h
   · rename_i d hd
     have e:Jb ⟨.rg id ops (i::is),K,l⟩=EV ops i:=rfl
     unfold U9 at h1
     rw[e] at hrun h1
     simp only[hd] at h1
     exact⟨IV d v h (hrun w hc) h1⟩
   · cases h
 |dr id ops t pts=>
  cases t with
  |fl i t=>
   simp only[U8] at h
   split at h
   · rename_i d hd
     have e:Jb ⟨.dr id ops (.fl i t) pts,K,l⟩=EV ops i:=rfl
     unfold U9 at h1
     rw[e] at hrun h1
     simp only[hd] at h1
     exact⟨XC d v ls h hrun hc h1⟩
   · cases h
  |_=>cases h
 |_=>cases h
theorem lw(v:Value)(hrun: ∀w',(execOp (fe n st.l) (Jb st)).run P w'= .ok (.value v) w')(hr:GS r P Q0 ds n (U9 st v []) w)(h:U8 n st=true:=by kernel_rfl):GS r P Q0 ds n st w:=lwD v [] (fun w' _=>hrun w') (fun q hq=>by cases hq) hr h
def sK(n:Nat)(st:Sx):Bool:=M7 st&&U8 n st
theorem AS(v:Value)(hrun:(execOp (fe n st.l) (Jb st)).run P w= .ok (.value v) w)(hr:GS r P Q0 ds n (U9 st v []) w)(h:sK n st=true:=by kernel_rfl):GS r P Q0 ds n st w:=by
 unfold sK at h
 rw[Bool.and_eq_true] at h
 obtain⟨p,K,l⟩:=st
 have h1:=hr.out
 cases p with
 |rg id ops is=>
  cases is with
  |nil=>cases h.2
  |cons i is=>
   have h2:=h.2
   simp only[U8] at h2
   split at h2
   · rename_i d hd
     have e:Jb ⟨.rg id ops (i::is),K,l⟩=EV ops i:=rfl
     unfold U9 at h1
     rw[e] at hrun h1
     simp only[hd] at h1
     exact⟨IV d v h2 hrun h1⟩
   · cases h2
 |_=>cases h.1
def PQ(Q:Exit→Act→World→Prop):Prop:= ∀c a d v w,Q (.panic c) (a.put d v) w→Q (.panic c) a w
theorem pqT{I:Act→World→Prop}{Q:Exit→Act→World→Prop}(h:PQ Q):PQ (Exit.then I Q):=fun c a d v w hh=>h c a d v w hh
theorem xK(h:PQ Q0): ∀K:List Kt,PQ (KQ r P Q0 K)
 | []=>h
 | .sq _::K=>fun c a d v w hh=>xK h K c a d v w hh
 | .bk _::K=>fun c a d v w hh=>xK h K c a d v w hh
theorem pqP{m:Nat}{fn:Func}{R:Ending→World→Prop}:PQ (D6 m P fn R):=fun _ _ _ _ _ h=>h
def drS(st:Sx)(t:Tr):Sx:=match st.p with
 | .co (.region id ops true)=>⟨.dr id ops t [],st.K,st.l⟩
 |_=>st
def drC(P:Program)(st:Sx)(t:Tr):Bool:=match st.p with
 | .co (.region _ ops true)=>Bi ops&&P.follows .mixedOrders&&Region.noSelect ops&&Be ops ops.size (Array.replicate ops.size false) t
 |_=>false
theorem dw(t:Tr)(hs:sat g w L)(k: ∀w',sat g w' L→GS r P Q0 ds n (drS st t) w')(hQ:PQ Q0:=by repeat (first|exact pqP|refine pqT (I:=_) ?_|refine xK ?_ _|exact(fun _ _ _ _ _ h=>h)))(h:drC P st t=true:=by kernel_rfl):GS r P Q0 ds n st w:=by
 obtain⟨p,K,l⟩:=st
 cases p with
 |co c=>
  cases c with
  |region id ops b=>
   cases b with
   |true=>
    simp only[drC,Bool.and_eq_true] at h
    exact⟨XJ t rfl h.1.1.1 h.1.1.2 h.1.2 h.2 (xK hQ K) hs fun w' h2=>(k w' h2).out⟩
   |false=>cases h
  |_=>cases h
 |_=>cases h
def brS(q:Nat)(st:Sx):Sx:=match st.p with
 | .dr id ops (.an2 i t j u) pts=>⟨.dr id ops (match q with |0=> .an i t|_=> .an j u) pts,st.K,st.l⟩
 | .dr id ops (.an3 i t j u k x) pts=>⟨.dr id ops (match q with |0=> .an i t|1=> .an j u|_=> .an k x) pts,st.K,st.l⟩
 |_=>st
def xX(q:Nat)(st:Sx):Bool:=match st.p with
 | .dr _ _ (.an2 _ _ _ _) _=>Nat.beq q 2
 | .dr _ _ (.an3 _ _ _ _ _ _) _=>Nat.beq q 3
 |_=>false
theorem IN(h0:GS r P Q0 ds n (brS 0 st) w)(h1:GS r P Q0 ds n (brS 1 st) w)(h:xX 2 st=true:=by kernel_rfl):GS r P Q0 ds n st w:=by
 obtain⟨p,K,l⟩:=st
 cases p with
 |dr id ops t pts=>
  cases t with
  |an2 i t j u=>exact⟨h0.out,h1.out⟩
  |_=>cases h
 |_=>cases h
def skC(n:Nat)(st:Sx):Bool:=match st.p with
 | .dr _ ops (.an i _) _=>(match lU ops n st.l i with |some d=>(match EJ n st.l d undef,d,(EV ops i).dst with |some _,some a,some b=>Nat.beq a b|some _,none,none=>true|_,_,_=>false)|none=>false)
 |_=>false
theorem bR(its:List (Iq w))(hr:GS r P Q0 ds n (C9 st undef) w)(hk:lS its=O8 st:=by kernel_rfl)(h:skC n st=true:=by kernel_rfl):GS r P Q0 ds n st w:=by
 have hc:BV w (O8 st):=hk▸GV its
 obtain⟨p,K,l⟩:=st
 have h1:=hr.out
 cases p with
 |dr id ops t pts=>
  cases t with
  |an i t=>
   simp only[skC] at h
   split at h
   · rename_i d e1
     have e:(C9 ⟨.dr id ops (.an i t) pts,K,l⟩ undef).l=match (EV ops i).dst with |some d=>(d,undef)::l|none=>l:=rfl
     split at h
     · rename_i l2 a b e3 e2
       rw[e,e3] at h1
       have hab:=Nat.eq_of_beq_eq_true h
       subst hab
       refine⟨MB _ e1 rfl e2 hc ?_⟩
       have:l2=(a,undef)::l:=by
        simp only[EJ] at e2
        cases hb:Nat.blt a n with
        |true=>rw[hb] at e2;exact(Option.some.inj e2).symm
        |false=>rw[hb] at e2;cases e2
       rw[this]
       exact h1
     · rename_i l2 e3 e2
       rw[e,e3] at h1
       refine⟨MB _ e1 rfl e2 hc ?_⟩
       have:l2=l:=(Option.some.inj e2).symm
       rw[this]
       exact h1
     · cases h
   · cases h
  |_=>cases h
 |_=>cases h
def xY(st:Sx):Code:=match st.p with
 | .co (.loop x)=>x
 |_=> .skip
def sL(st:Sx):Bool:=match st.p with
 | .co (.loop _)=>true
 |_=>false
theorem Jc(I:Nat→Act→World→Prop)(n0:Nat)(h0:I n0 (Ad ds n st.l) w)(round: ∀k a w,I k a w→XS r P (Exit.then (fun a' w'=> ∃n',n'<k∧I n' a' w') (KQ r P Q0 st.K)) (.co (xY st)) [] a w)(h:sL st=true:=by kernel_rfl):GS r P Q0 ds n st w:=by
 obtain⟨p,K,l⟩:=st
 cases p with
 |co c=>
  cases c with
  |loop x=>exact⟨XK rfl I n0 h0 fun k a w hI=>round k a w hI⟩
  |_=>cases h
 |_=>cases h
theorem ga{p:Ps}{K:List Kt}{l:Fr}(h:GS r P Q0 ds n ⟨p,K,l⟩ w):XS r P Q0 p K (Ad ds n l) w:=h.out
def IP(st:Sx):Bool:=match st.p,st.K with
 | .ou .normal,[]=>true
 |_,_=>false
theorem ET{I:Act→World→Prop}{Q:Exit→Act→World→Prop}(h:I (Ad ds n st.l) w)(e:IP st=true:=by kernel_rfl):GS r P (Exit.then I Q) ds n st w:=by
 obtain⟨p,K,l⟩:=st
 unfold IP at e
 split at e
 · rename_i e1 e2
   simp only at e1 e2
   subst e1
   subst e2
   exact⟨h⟩
 · cases e
def upS(st:Sx)(K:List Kt):Sx:=⟨st.p,K,st.l⟩
def sM(st:Sx):Bool:=match st.p,st.K with
 | .ou (.exit _),[]=>true
 | .ou .ret,[]=>true
 |_,_=>false
theorem up{I:Act→World→Prop}{K:List Kt}(h:GS r P Q0 ds n (upS st K) w)(e:sM st=true:=by kernel_rfl):GS r P (Exit.then I (KQ r P Q0 K)) ds n st w:=by
 obtain⟨p,K',l⟩:=st
 have h1:=h.out
 unfold sM at e
 split at e
 · rename_i e1 e2
   simp only at e1 e2
   subst e1
   subst e2
   exact⟨h1⟩
 · rename_i e1 e2
   simp only at e1 e2
   subst e1
   subst e2
   exact⟨h1⟩
 · cases e
theorem DS(k:Nat)(h':GS r P (Exit.then (Un r P (xY st) (KQ r P Q0 st.K) k) (KQ r P Q0 st.K)) ds n ⟨.co (xY st),[],st.l⟩ w)(h:sL st=true:=by kernel_rfl):GS r P Q0 ds n st w:=by
 obtain⟨p,K,l⟩:=st
 cases p with
 |co c=>
  cases c with
  |loop x=>exact⟨NJ (k+1) rfl h'.out⟩
  |_=>cases h
 |_=>cases h
theorem Bm{x:Code}{k:Nat}{Q:Exit→Act→World→Prop}(h':GS r P (Exit.then (Un r P x Q k) Q) ds n ⟨.co x,[],st.l⟩ w)(e:IP st=true:=by kernel_rfl):GS r P (Exit.then (Un r P x Q (k+1)) Q) ds n st w:=ET h'.out e
def sqA(st:Sx):Code:=match st.p with
 | .co (.seq x _)=>x
 |_=> .skip
def sqB(st:Sx):Code:=match st.p with
 | .co (.seq _ y)=>y
 |_=> .skip
def xZ(st:Sx):Bool:=match st.p with
 | .co (.seq _ _)=>true
 |_=>false
theorem jnS(J:Act→World→Prop)(hx:GS r P (Exit.then J (KQ r P Q0 st.K)) ds n ⟨.co (sqA st),[],st.l⟩ w)(hy: ∀a w,J a w→XS r P Q0 (.co (sqB st)) st.K a w)(h:xZ st=true:=by kernel_rfl):GS r P Q0 ds n st w:=by
 obtain⟨p,K,l⟩:=st
 cases p with
 |co c=>
  cases c with
  |seq x y=>exact⟨cH J rfl hx.out fun a w hJ=>hy a w hJ⟩
  |_=>cases h
 |_=>cases h
inductive Fe where
 |k (i:Nat) (v:Value)
 |o (i:Nat) (e:Ov)
def xL:List Fe→Fr
 | []=> []
 | .k i v::r=>(i,v)::xL r
 | .o i e::r=>(i,e.v)::xL r
def xM(l:Fr):List Fe→List Value
 | []=> []
 | .k i _::r=>lk l i::xM l r
 | .o i _::r=>lk l i::xM l r
def xN:List Fe→List Value
 | []=> []
 | .k _ v::r=>v::xN r
 | .o _ e::r=>e.u::xN r
theorem W3{l:Fr}: ∀ {fs:List Fe},xM l fs=xN fs→PH l (xL fs)
 | [],_=>trivial
 | .k _ _::_,h=>⟨(List.cons.inj h).1,W3 (List.cons.inj h).2⟩
 | .o _ e::_,h=>⟨(List.cons.inj h).1.trans e.h,W3 (List.cons.inj h).2⟩
theorem Ck{l:Fr}(fs:List Fe)(h:xM l fs=xN fs:=by kernel_rfl):Ad ds n l=Ad ds n (xL fs++l):=HN _ (W3 h)
end
theorem AC{P:Program}{f:FuncId}{fn:Func}{args:List Value}{Pre:List AB}{Post:Value→List AB→Prop}{n:Nat}(hf:P.funcs[f]? =some fn)(hn:fn.ntmps=n)
 (h: ∀(g w:World) (R:AB),sat g w (Pre++ [R])→GS none P (D6 0 P fn fun e w'=> ∃v K,e= .returned v∧Post v K∧sat g w' (K++ [R])) [] n ⟨.co (CA fn []),[],Cg args 0⟩ w)(hb:fn.body=some (CA fn []):=by kernel_rfl)(ha:Nat.ble args.length n=true:=by kernel_rfl):HT P f args Pre Post:=
 sZ n (Cg args 0) hf hb hn ha rfl fun g w R hs=>(h g w R hs).out
def rY{w:World}:List (Iq w)→List Value
 | []=> []
 | .r _ _ _ _ vs _::r=>vs++rY r
 | .rv _ _ _ _ vs _ _::r=>vs++rY r
 | .s _ _::r=>rY r
 | .v _ _ _::r=>rY r
def lT(P:Program)(fn:Func)(n:Nat)(st:Sx)(vs:List Value):Option (Value×List (Addr×Value)):=match st.p,st.K with
 | .ou .ret,[]=>EU P (VE fn n st.l) vs
 | .ou .normal,[]=>EU P (VE fn n st.l) vs
 |_,_=>none
theorem en{r:Option Nat}{P:Program}{fn:Func}{m n:Nat}{R:Ending→World→Prop}{st:Sx}{w:World}(v:Value)(its:List (Iq w))(hR:R (.returned v) w)(h:lT P fn n st (rY its)=some (v,XT its):=by kernel_rfl):GS r P (D6 m P fn R) [] n st w:=by
 obtain⟨p,K,l⟩:=st
 unfold lT at h
 split at h
 · rename_i e1 e2
   simp only at e1 e2
   subst e1
   subst e2
   exact⟨NI (m:=m) _ _ _ h (F7 (Eb its)) hR⟩
 · rename_i e1 e2
   simp only at e1 e2
   subst e1
   subst e2
   exact⟨HS (m:=m) _ _ _ h (F7 (Eb its)) hR⟩
 · cases h
section
variable {r : Option Nat} {P : Program} {Q0 : Exit → Act → World → Prop} {ds : List Deferred} {n : Nat} {g w : World} {st : Sx} {L : List AB}
theorem g0(hr:GS r P Q0 ds n (VJ P n st (Gx (w:=w) [])) w)(h:PU P n st (Gx (w:=w) [])=(XT (w:=w) [],kL (w:=w) []):=by kernel_rfl):GS r P Q0 ds n st w:=go ([]) hr h
theorem sA{b:Nat}{cs:List Value}{t:TypeId}(cs':List Value)(hs:sat g w (Cl b cs t::L))(k: ∀w',sat g w' (Cl b cs' t::L)→GS r P Q0 ds n (C9 st .nilFunc) w')(hr:W0 P n st=some ((Cg cs' 0).map fun q=>((⟨b,q.1,none⟩:Addr),q.2)):=by kernel_rfl)
(hk:((Cg cs' 0).all fun q=>Nat.blt q.1 cs.length&&q.2.oneCell')=true:=by kernel_rfl)(hcs:CL cs (Cg cs' 0)=cs':=by kernel_rfl)(hg:M7 st=true:=by kernel_rfl):GS r P Q0 ds n st w:=sP (Cg cs' 0) cs' hs k hr hk hcs hg
theorem sB{b:Nat}{cs:List Value}{t:TypeId}(cs':List Value)(hs:sat g w (Cl b cs t::L))(k: ∀w',sat g w' (Cl b cs' t::L)→BV w' (O8 st)∧GS r P Q0 ds n (C9 st .nilFunc) w')(hr:W0 P n st=some ((Cg cs' 0).map fun q=>((⟨b,q.1,none⟩:Addr),q.2)):=by kernel_rfl)
(hk:((Cg cs' 0).all fun q=>Nat.blt q.1 cs.length&&q.2.oneCell')=true:=by kernel_rfl)(hcs:CL cs (Cg cs' 0)=cs':=by kernel_rfl):GS r P Q0 ds n st w:=sG (Cg cs' 0) cs' hs k hr hk hcs
theorem kB{I:Nat→Act→World→Prop}{k:Nat}{Q:Exit→Act→World→Prop}(m:Nat)(h:I m (Ad ds n st.l) w)(hm:m<k:=by omega)(e:IP st=true:=by kernel_rfl):GS r P (Exit.then (fun a' w'=> ∃n',n'<k∧I n' a' w') Q) ds n st w:=ET ⟨m,hm,h⟩ e
theorem AD{fn:Func}{m:Nat}{v0:Value}{K0:List AB}{R0:AB}(v:Value)(its:List (Iq w))(hs:sat g w (K0++ [R0]))(hv:v=v0:=by rfl)(h:lT P fn n st (rY its)=some (v,XT its):=by kernel_rfl):
 GS r P (D6 m P fn fun e w'=> ∃v K,e= .returned v∧(v=v0∧K=K0)∧sat g w' (K++ [R0])) [] n st w:=en v its ⟨_,_,rfl,⟨hv,rfl⟩,hs⟩ h
end
section
variable {P : Program} {n : Nat} {l : Fr} {o : Oper} {w : World} {t e : Nat}
theorem Ft(x i:Operand)(p:Option Addr)(b off:Nat)(z:Int)(len cap:Nat)(ht:P.underlying t=some (.slice e))(sz k:Nat)(hp:p=some ⟨b,off,none⟩)(off':Nat)(ho:o.op= .indexAddr t x i:=by kernel_rfl)(hs:(P.info? e).map (·.size)=some sz:=by kernel_rfl)
(hx:fe n l x= .slice p len cap:=by kernel_rfl)(hi:fe n l i= .int .i64 z:=by kernel_rfl)(hz:z=(k:Int):=by omega)(hk:k<len:=by omega)(he:off+k*sz=off':=by omega):(execOp (fe n l) o).run P w= .ok (.value (.pointer (some ⟨b,off',none⟩))) w:=HP ho ht sz hs k hx hp hi hz hk off' he w
theorem D5(x i:Operand)(b off:Nat)(z:Int)(len cap:Nat)(ht:P.underlying t=some (.slice e))(sz k off':Nat)(ho:o.op= .indexAddr t x i:=by kernel_rfl)(hs:(P.info? e).map (·.size)=some sz:=by kernel_rfl)
(hx:fe n l x= .slice (some ⟨b,off,none⟩) len cap:=by kernel_rfl)(hi:fe n l i= .int .i64 z:=by kernel_rfl)(hz:z=(k:Int):=by omega)(hk:k<len:=by omega)(he:off+k*sz=off':=by omega):(execOp (fe n l) o).run P w= .ok (.value (.pointer (some ⟨b,off',none⟩))) w:=I6 ho ht sz hs k hx hi hz hk off' he w
end
section
variable {α : Type} {g w : World} {L : List AB}
theorem CM(j:Nat)(hs:sat g w L){e sz n c:Nat}{p:Option Addr}{f:α→List Value}{M:List α}(hj:L[j]? =some (Sl e sz p n c (fl f M))){b off i:Nat}{x:α}(hp:p=some ⟨b,off,none⟩)(E:Enc sz f)(q:Nat)(v:Value)(hx:M[i]? =some x)(o:Nat)
(hv:(f x)[q]? =some v:=by rfl)(ho:off+(i*sz+q)=o:=by omega):w.cell? ⟨b,o,none⟩=some v:=Cn hs hj (F5 _ _ _) hp (Cq E hx hv) o ho
theorem gX(M:List α)(k:Nat)(h:k<M.length): ∃x,M[k]? =some x:=⟨_,List.getElem?_eq_getElem h⟩
end
section
variable {P : Program} {Q : Exit → Act → World → Prop} {g w : World} {L : List AB} {n : Nat} {l : Fr} {o : Oper} {ds : List Deferred} {N : Act → World → Prop}
theorem aG(d sz:Nat)(s x:Operand)(z:Value)(p p2:Option Addr)(m c k c2 by_:Nat){t e:Nat}(ht:P.underlying t=some (.slice e)){cs:List Value}(hs:sat g w (Sl e sz p m c cs::L)){A:AB}(j:Nat)(hj:(Sl e sz p m c cs::L)[j]? =some A)
(ys:List Value)(hg:Gv A p2 k ys)(hl:ys.length=k*sz)(h1: ∀u∈ys,u.oneCell')(q:Nat)(h: ∀p' c' w',sat g w' (Sl e sz p' q c' (cs++ys)::L)→N (Ad ds n ((d,.slice p' q c')::l)) w')
(ho:o.op= .call {callee:= .builtin .append,args:= #[s,x],argTypes:= #[t,t]}:=by kernel_rfl)(hd:o.dst=some d:=by kernel_rfl)(hn:Nat.blt d n=true:=by rfl)(hi:(P.info? e).map (fun i=>(i.zero,i.size,i.bytes))=some (some z,sz,by_):=by kernel_rfl)
(hzs:z.cells.size=sz:=by rfl)(hsz:0<sz:=by decide)(hsv:fe n l s= .slice p m c:=by kernel_rfl)(hxv:fe n l x= .slice p2 k c2:=by kernel_rfl)(h63:m+k≤9223372036854775807:=by omega)(hby:(m+k)*by_≤140737488355328:=by omega)(hmk:m+k=q:=by omega):
 OP P o (Ad ds n l) w N Q:=NG ho hd hn ht hi hzs hsz hsv hxv hs j hj ys hg hl h1 h63 hby q hmk h
theorem aA(d sz:Nat)(s x:Operand)(z:Value)(p:Option Addr)(m c k c2:Nat)(a:Addr)(by_:Nat){t e:Nat}(ht:P.underlying t=some (.slice e)){cs:List Value}(hs:sat g w (Sl e sz p m c cs::L))
(ys:List Value)(hl:ys.length=k*sz)(hy: ∀j u,ys[j]? =some u→w.cell? (a.add j)=some u)(h1: ∀u∈ys,u.oneCell')(q:Nat)(h: ∀p' c' w',sat g w' (Sl e sz p' q c' (cs++ys)::L)→N (Ad ds n ((d,.slice p' q c')::l)) w')
(ho:o.op= .call {callee:= .builtin .append,args:= #[s,x],argTypes:= #[t,t]}:=by kernel_rfl)(hd:o.dst=some d:=by kernel_rfl)(hn:Nat.blt d n=true:=by rfl)(hi:(P.info? e).map (fun i=>(i.zero,i.size,i.bytes))=some (some z,sz,by_):=by kernel_rfl)
(hzs:z.cells.size=sz:=by rfl)(hsz:0<sz:=by decide)(hsv:fe n l s= .slice p m c:=by kernel_rfl)(hxv:fe n l x= .slice (some a) k c2:=by kernel_rfl)(h63:m+k≤9223372036854775807:=by omega)(hby:(m+k)*by_≤140737488355328:=by omega)(hmk:m+k=q:=by omega):
 OP P o (Ad ds n l) w N Q:=MD ho hd hn ht hi hzs hsz hsv hxv hs ys hl hy h1 h63 hby q hmk h
theorem Br{b:Nat}{A:AB}{cs:List Value}{t:Nat}(h:sat g w (A::Cl b cs t::L)){ys:List Value}(hy:ys=cs): ∀j u,ys[j]? =some u→w.cell? ((⟨b,0,none⟩:Addr).add j)=some u:=fun j u hj=>by
 subst hy
 rw[CZ]
 exact AL h 1 rfl (by rw[Nat.zero_add];exact hj)
end
abbrev bT:Value:=.bool true
abbrev bF:Value:=.bool false
abbrev sV(L:List UInt8):Value:=.string (St L)
abbrev pO:Value:=.pointer none
abbrev AU(b a c d:Nat)(n m e f q g h i j:Int)(k:Int)(l o p r:Nat):AB:=Cl b [pV a,pV c,pV d,iV n,iV m,iV e,iV f,iV q,iV g,iV h,iV i,iV j,uV k,pV l,pV o,pV p,pV r] 84
end Go.Proofs.YtcgkoffnknpgjaaGreatDoor
