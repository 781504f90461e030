/-
  Regions that draw their order and hold a yield. No program in sight.
-/
import Derived.Test.YtcgkoffnknpgjaaGreatDoorRfx
namespace Go.Proofs.YtcgkoffnknpgjaaGreatDoor
set_option linter.unusedVariables false
set_option linter.unusedSimpArgs false
section
variable {m : Nat} {P : Program} {Q : Exit → Act → World → Prop} {ops : Array Oper} {S : World → Prop}
abbrev Xf(m:Nat)(P:Program)(ops:Array Oper)(Q:Exit→Act→World→Prop)(i:Nat)(K:Act→World→Prop)(a:Act)(w:World):Prop:=wpOpIn (FW none) m P ops Q i K a w
theorem FX{o:Oper}{w:World}{ρ:Operand→Value}: ∀f,o.about P w ρ=some f→(FW none).fn f:=fun _ _=>trivial
theorem Xg{i:Nat}{o:Oper}{v:Value}{a:Act}(hi:ops[i]? =some o)(hy:YieldsIf P ops S o v a){K:Act→World→Prop}{w:World}(hS:S w)(h:K (a.put o.dst v) w):Xf m P ops Q i K a w:=by
 unfold Xf wpOpIn
 simp only[hi]
 rcases hy with ⟨h1,h2⟩|⟨h1,rfl⟩
 · rw[if_pos h1]
   refine⟨FX,?_⟩
   rw[Oper.semAt_none,h2 w hS]
   exact h
 · rw[if_neg (by rw[h1];decide)]
   exact⟨FX,h⟩
theorem Rt{o:Oper}{d:Option Tmp}{v:Value}{a:Act}{K K':Act→World→Prop}(hK: ∀ds u w,K ((({a with defers:=ds}:Act).put d v).put o.dst u) w→K' (({a with defers:=ds}:Act).put o.dst u) w)(hQ: ∀c w,Q (.panic c) (a.put d v) w→Q (.panic c) a w)
 (res:Result Next)(h:o.uponIn (FW none) m P (a.put d v) K Q res):o.uponIn (FW none) m P a K' Q res:=by
 have hK0: ∀u w,K ((a.put d v).put o.dst u) w→K' (a.put o.dst u) w:=fun u w=>hK a.defers u w
 match res,h with
 | .ok (.value u) w,h=>exact hK0 u w h
 | .ok .skip w,h=>exact hK0 _ w h
 | .ok (.defer q) w,h=>
  refine hK (q::a.defers) undef w ?_
  have e:({a with defers:=q::a.defers}:Act).put d v= {a.put d v with defers:=q::(a.put d v).defers}:=by cases d<;>rfl
  rw[e]
  exact h
 | .ok (.enter f args) w,h=>
  refine⟨h.1,h.2.mono fun e w' he=> ?_⟩
  cases e with
  |returned u=>exact hK0 u w' he
  |panicked c=>exact hQ _ _ he
  |outgrown=>exact he
 | .ok (.row r args) w,h=>exact⟨h.1,h.2.mono fun u w' he=>hK0 u w' he⟩
 | .ok (.round l f t as bd) w,h=>
  refine⟨h.1,h.2.mono fun e w' he=> ?_⟩
  cases e with
  |returned u=>exact hK0 u w' he
  |panicked c=>exact hQ _ _ he
  |outgrown=>exact he
 | .halt (.panic u) w,h=>exact hQ _ _ h
theorem VQ{j:Nat}{oi oj:Oper}{v:Value}(hj:ops[j]? =some oj)(hap:oi.apart ops oj=true)(hsi: ∀cs b,oi.op≠ .select cs b)(hsj: ∀cs b,oj.op≠ .select cs b)
 (hQ: ∀c a w,Q (.panic c) (a.put oi.dst v) w→Q (.panic c) a w){K:Act→World→Prop}{a:Act}{w:World}(hy:YieldsIf P ops S oi v a)(h:Xf m P ops Q j K (a.put oi.dst v) w):
  Xf m P ops Q j (fun a' w'=>YieldsIf P ops S oi v a'∧K (a'.put oi.dst v) w') a w:=by
 obtain⟨h1,h2,h3⟩:=Oper.apart_spec hap
 have stays: ∀ds u,YieldsIf P ops S oi v (({a with defers:=ds}:Act).put oj.dst u):=fun ds u=>
  YieldsIf.of_same (YieldsIf.of_same (a':= {a with defers:=ds}) hy rfl rfl) (execOp_put oi hsi _ oj.dst u h3) (wanted_put oi _ oj.dst u h3)
 have swap: ∀ds u,(({a with defers:=ds}:Act).put oi.dst v).put oj.dst u=(({a with defers:=ds}:Act).put oj.dst u).put oi.dst v:=fun ds u=>Act.put_comm _ v u h2
 unfold Xf wpOpIn at h ⊢
 simp only[hj] at h ⊢
 rw[wanted_put oj a oi.dst v h1] at h
 by_cases hw:Region.wanted oj (yielded ops a.tmps)=true
 · rw[if_pos hw] at h ⊢
   refine⟨FX,?_⟩
   have h4:=h.2
   rw[Oper.semAt_none,execOp_put oj hsj a oi.dst v h1] at h4
   rw[Oper.semAt_none]
   exact Rt (fun ds u w' hk=>⟨stays ds u,by rw[←swap];exact hk⟩) (fun c w'=>hQ c a w') _ h4
 · rw[if_neg hw] at h ⊢
   exact⟨FX,stays a.defers undef,by have h5:=h.2;rw[←swap a.defers undef];exact h5⟩
def RI(m:Nat)(P:Program)(ops:Array Oper)(Q:Exit→Act→World→Prop):Tr→List Pt→Act→World→Prop
 | .nil,_,a,w=>Q .normal a w
 | .fl i t,pts,a,w=> ∃o v ls,ops[i]? =some o∧(∀q∈ls,q.1=i)∧YieldsIf P ops (fun w'=>BV w' ls) o v a∧BV w ls∧RI m P ops Q t (ls++pts) (a.put o.dst v) w
 | .an i t,pts,a,w=>Xf m P ops Q i (fun a' w'=>BV w' (CK ops i pts)∧RI m P ops Q t (CK ops i pts) a' w') a w
 |_,_,_,_=>False
def Ru(m:Nat)(P:Program)(ops:Array Oper)(Q:Exit→Act→World→Prop)(S:Array Bool→World→Prop):Nat→Array Bool→Act→World→Prop
 |0,listed,a,w=>Region.ready .any ops listed= []∧Q .normal a w
 |f+1,listed,a,w=>(Region.ready .any ops listed= []→Q .normal a w)∧
  ∀i∈Region.ready .any ops listed,Xf m P ops Q i (fun a' w'=>S (listed.setIfInBounds i true) w'∧Ru m P ops Q S f (listed.setIfInBounds i true) a' w') a w
theorem JB{S:Array Bool→World→Prop}: ∀(f:Nat) (listed:Array Bool) (a:Act) (w:World),Ru m P ops Q S f listed a w→wpAnyIn (FW none) m P .any ops Q f listed a w
 |0,_,_,_,h=>h
 |f+1,_,_,_,h=>⟨h.1,fun i hi=>wpOpIn_mono (fun a' w' h'=>JB f _ a' w' h'.2) (h.2 i hi)⟩
theorem Ib{S S':Array Bool→World→Prop}(M:Array Bool→Prop)(hM: ∀l j,M l→M (l.setIfInBounds j true))(hs: ∀l w,M l→S l w→S' l w):
  ∀(f:Nat) (listed:Array Bool) (a:Act) (w:World),M listed→Ru m P ops Q S f listed a w→Ru m P ops Q S' f listed a w
 |0,_,_,_,_,h=>h
 |f+1,l,_,_,h0,h=>⟨h.1,fun i hi=>wpOpIn_mono (fun a' w' h'=>⟨hs _ _ (hM l i h0) h'.1,Ib M hM hs f _ a' w' (hM l i h0) h'.2⟩) (h.2 i hi)⟩
theorem Rv{S:Array Bool→World→Prop}{p:World→Prop}{i:Nat}{oi:Oper}{v:Value}(hi:ops[i]? =some oi)(hsel: ∀(j:Nat) (o:Oper) cs b,ops[j]? =some o→o.op≠ .select cs b)
 (hQ: ∀c a w,Q (.panic c) (a.put oi.dst v) w→Q (.panic c) a w)
 (hS1: ∀l w',(∀k,l.getD k false=true→Dt ops k i=false)→S l w'→p w')(hS2: ∀l w',S (l.setIfInBounds i true) w'→S l w'):
  ∀(f:Nat) (listed:Array Bool) (a:Act) (w:World),
   (∀j oj,ops[j]? =some oj→j≠i→listed.getD j true=false→(∀e∈oj.after,Region.binds .any e=true→e.on≠i)→oi.apart ops oj=true)→
   i∈Region.ready .any ops listed→bZ ops listed→(∀k,listed.getD k false=true→Dt ops k i=false)→YieldsIf P ops p oi v a→p w→S (listed.setIfInBounds i true) w→
   Ru m P ops Q S f (listed.setIfInBounds i true) (a.put oi.dst v) w→Ru m P ops Q S (f+1) listed a w:=by
 intro f
 induction f with
 |zero=>
  intro listed a w _ hr _ _ hy hp hS H
  refine⟨fun h=>(by rw[h] at hr;cases hr),fun j hj=> ?_⟩
  by_cases hji:j=i
  · subst hji
    exact Xg hi hy hp ⟨hS,H⟩
  · have h0:=ready_mono hj hji
    rw[H.1] at h0
    cases h0
 |succ f ih=>
  intro listed a w hfree hr hclo hno hy hp hS H
  refine⟨fun h=>(by rw[h] at hr;cases hr),fun j hj=> ?_⟩
  by_cases hji:j=i
  · subst hji
    exact Xg hi hy hp ⟨hS,H⟩
  · have h1:=H.2 j (ready_mono hj hji)
    obtain⟨hjun,oj,hoj,hall⟩:=mem_ready.1 hj
    have hnot: ∀e∈oj.after,Region.binds .any e=true→e.on≠i:=fun e he hb heq=>by
     have g1:=hall e he hb
     have g0:=(mem_ready.1 hr).1
     rw[heq] at g1
     rcases Nat.lt_or_ge i listed.size with h'|h'
     · simp[h'] at g0 g1;rw[g0] at g1;cases g1
     · simp[Array.getElem?_eq_none h'] at g1
    have h2:=VQ hoj (hfree j oj hoj hji hjun hnot) (fun cs b=>hsel i oi cs b hi) (fun cs b=>hsel j oj cs b hoj) hQ hy h1
    have hfree': ∀k ok,ops[k]? =some ok→k≠i→(listed.setIfInBounds j true).getD k true=false→
      (∀e∈ok.after,Region.binds .any e=true→e.on≠i)→oi.apart ops ok=true:=fun k ok hk hki hun hno=>by
     refine hfree k ok hk hki ?_ hno
     by_cases hjk:j=k
     · subst hjk;exact hjun
     · rw[getD_set_ne true hjk] at hun;exact hun
    have hno': ∀k,(listed.setIfInBounds j true).getD k false=true→Dt ops k i=false:=fun k hk=>by
     by_cases hjk:j=k
     · subst hjk;exact HJ hclo (fun o2 ho2=>by rw[hoj] at ho2;obtain rfl:=Option.some.inj ho2;exact hall) (mem_ready.1 hr).1
     · rw[getD_set_ne false hjk] at hk;exact hno k hk
    refine wpOpIn_mono (fun a' w' h3=> ?_) h2
    have hSj:S ((listed.setIfInBounds j true).setIfInBounds i true) w':=by
     rw[Array.setIfInBounds_comm _ _ hji];exact h3.2.1
    refine⟨hS2 _ _ hSj,ih (listed.setIfInBounds j true) a' w' hfree' (ready_mono hr (Ne.symm hji)) (DT hclo hj) hno' h3.1 (hS1 _ _ hno' (hS2 _ _ hSj)) hSj ?_⟩
    rw[Array.setIfInBounds_comm _ _ hji]
    exact h3.2.2
theorem Rw(hsel:Region.noSelect ops=true)(hQ: ∀c a d v w,Q (.panic c) (a.put d v) w→Q (.panic c) a w): ∀(t:Tr) (f:Nat) (listed:Array Bool) (pts:List Pt) (a:Act) (w:World),listed.size=ops.size→
  Be ops f listed t=true→bZ ops listed→RI m P ops Q t pts a w→Sp ops pts listed w→Ru m P ops Q (Sp ops pts) f listed a w:=by
 intro t
 induction t with
 |nil=>
  intro f listed pts a w _ hc _ h _
  have hr:Region.ready .any ops listed= []:=by
   cases f<;>simpa [Be] using hc
  cases f with
  |zero=>exact⟨hr,h⟩
  |succ f=>exact⟨fun _=>h,by rw[hr];simp⟩
 |fl i t ih=>
  intro f listed pts a w hl hc hclo h hs
  cases f with
  |zero=>simp[Be] at hc
  |succ f=>
   obtain⟨o,v,ls,ho,hls,hy,hcell,hrest⟩:=h
   simp only[Be,ho,Bool.and_eq_true] at hc
   obtain⟨⟨⟨hf,hfree⟩,hr⟩,hc⟩:=hc
   have hr':i∈Region.ready .any ops listed:=by simpa using hr
   have hfi: ∀k,Dt ops i k=false:=fun k=>by simp[Dt,ho,hf]
   have S2: ∀(l:Array Bool) w',Sp ops (ls++pts) (l.setIfInBounds i true) w'→Sp ops (ls++pts) l w':=fun l w' hs q hq=>by
    rcases hs q hq with h1|⟨k,hk,he⟩
    · exact .inl h1
    · by_cases hik:i=k
      · subst hik;rw[hfi] at he;cases he
      · rw[getD_set_ne false hik] at hk;exact .inr ⟨k,hk,he⟩
   have hno': ∀k,listed.getD k false=true→Dt ops k i=false:=fun k hk=>HJ hclo (fun o2 ho2=>hclo k o2 ho2 hk) (mem_ready.1 hr').1
   have hsw:Sp ops (ls++pts) (listed.setIfInBounds i true) w:=fun q hq=>by
    rcases List.mem_append.1 hq with h1|h1
    · exact .inl (hcell q h1)
    · rcases hs q h1 with h2|⟨k,hk,he⟩
      · exact .inl h2
      · exact .inr ⟨k,getD_set_true hk,he⟩
   have h1:=ih f (listed.setIfInBounds i true) (ls++pts) (a.put o.dst v) w (by simpa using hl) hc (DT hclo hr') hrest hsw
   have h2:=Rv (S:=Sp ops (ls++pts)) (p:=fun w'=>BV w' ls) ho (Region.noSelect_spec hsel) (fun c a w hq=>hQ c a _ _ w hq)
    (fun l w' hk hs q hq=>by
     rcases hs q (List.mem_append_left _ hq) with h1|⟨k,hk1,he⟩
     · exact h1
     · rw[hls q hq,hk k hk1] at he;cases he) S2
    f listed a w (Region.free_spec ho hfree) hr' hclo hno' hy hcell hsw h1
   exact Ib (fun _=>True) (fun _ _ _=>trivial) (fun l w' _ hs q hq=>hs q (List.mem_append_right _ hq)) _ _ _ _ trivial h2
 |an i t ih=>
  intro f listed pts a w hl hc hclo h hs
  cases f with
  |zero=>simp[Be] at hc
  |succ f=>
   simp only[Be,Bool.and_eq_true,beq_iff_eq] at hc
   obtain⟨⟨hr,ha⟩,hc⟩:=hc
   refine⟨fun h0=>(by rw[hr] at h0;cases h0),fun j hj=> ?_⟩
   rw[hr] at hj
   simp only[List.mem_singleton] at hj
   subst hj
   unfold Cp at ha
   cases ho:ops[j]? with
   |none=>simp[ho] at ha
   |some o=>
    simp only[ho,Bool.not_eq_true'] at ha
    have hil:j<listed.size:=by rw[hl];exact(Array.getElem?_eq_some_iff.1 ho).1
    have up: ∀l w',l.getD j false=true→Sp ops (CK ops j pts) l w'→Sp ops pts l w':=fun l w' hl hs q hq=>by
     cases he:Jt ops j q.1 with
     |true=>exact .inr ⟨j,hl,Fu ho ha he⟩
     |false=>exact hs q (List.mem_filter.2 ⟨hq,by simp[he]⟩)
    have h0:Xf m P ops Q j (fun a' w'=>BV w' (CK ops j pts)∧RI m P ops Q t (CK ops j pts) a' w') a w:=h
    refine wpOpIn_mono (fun a' w' h'=> ?_) h0
    have hs':Sp ops (CK ops j pts) (listed.setIfInBounds j true) w':=fun q hq=> .inl (h'.1 q hq)
    refine⟨up _ _ (Do hil) hs',Ib (fun l=>l.getD j false=true) (fun l j hl=>getD_set_true hl) (fun l w hl=>up l w hl) f _ a' w' (Do hil) ?_⟩
    exact ih f _ _ a' w' (by simpa using hl) hc (DT hclo (by rw[hr];exact List.mem_singleton_self _)) h'.2 hs'
 |an2=>intro f listed pts a w _ _ _ h _;exact h.elim
 |an3=>intro f listed pts a w _ _ _ h _;exact h.elim
end
section
variable {P : Program} {Q : Exit → Act → World → Prop} {w : World} {c : Code} {ds : List Deferred} {ops : Array Oper} {n : Nat} {l : Fr}
def YR(P:Program)(ops:Array Oper)(Q:Exit→Act→World→Prop)(t:Tr)(pts:List Pt)(a:Act)(w:World):Prop:= ¬LetsOut Q→ ∀m,RI m P ops Q t pts a w
theorem Xh{id:Nat}{g:World}{L:List AB}(t:Tr)(e:c= .region id ops true)(hm:P.follows .mixedOrders=true)(hsel:Region.noSelect ops=true)
 (hc:Be ops ops.size (Array.replicate ops.size false) t=true)(hQ: ∀c a d v w,Q (.panic c) (a.put d v) w→Q (.panic c) a w)(hs:sat g w L)(h: ∀w',sat g w' L→YR P ops Q t [] (Ad ds n l) w'):WP none P c Q (Ad ds n l) w:=fun hL m=>by
 subst e
 exact wpIn_region_any hm (JB _ _ _ _ (Rw hsel hQ t _ _ [] _ _ (by simp) hc PB (h _ (L8 hs) hL m) (fun q hq=>by cases hq)))
def dA:Tr→Bool
 | .nil=>true
 | .fl _ t=>dA t
 | .an _ t=>dA t
 |_=>false
theorem Hc(hd:Bi ops=true)(hL: ¬LetsOut Q)(m:Nat): ∀(t:Tr) (pts:List Pt) (a:Act) (w:World),dA t=true→RW P ops Q t pts a w→RI m P ops Q t pts a w
 | .nil,_,_,_,_,h=>h
 | .fl i t,pts,a,w,ho,⟨o,v,ls,h1,h2,h3,h4,h5⟩=>⟨o,v,ls,h1,h2,h3,h4,Hc hd hL m t _ _ _ ho h5⟩
 | .an i t,pts,a,w,ho,h=>by
  have h0:wpOp P ops Q i (fun a' w'=>BV w' (CK ops i pts)∧RW P ops Q t (CK ops i pts) a' w') a w:=h
  show Xf m P ops Q i (fun a' w'=>BV w' (CK ops i pts)∧RI m P ops Q t (CK ops i pts) a' w') a w
  exact J0 (r:=none) (m:=m) hd hL (wpOp_mono (fun a' w' h'=>⟨h'.1,Hc hd hL m t _ a' w' ho h'.2⟩) h0)
theorem Hd{t:Tr}(b:List Ent): ∀ {l l':Fr} {pts' pts:List Pt} {eqs:List (Value×Value)},E5 P ops n l b=some (l',pts',eqs)→G3 eqs→BV w pts'→
  YR P ops Q t (pts'++pts) (Ad ds n l') w→YR P ops Q (AE (b.map (·.i)) t) pts (Ad ds n l) w:=by
 induction b with
 |nil=>
  intro l l' pts' pts eqs h _ _ hr
  simp only[E5,Option.some.injEq,Prod.mk.injEq] at h
  obtain⟨rfl,rfl,_⟩:=h
  exact hr
 |cons e b ih=>
  intro l l' pts' pts eqs h he hc hr
  simp only[E5] at h
  split at h
  · cases h
  · rename_i d u ls h1
    split at h
    · cases h
    · rename_i l1 h2
      split at h
      · cases h
      · rename_i l2 pts2 eqs2 h3
        simp only[Option.some.injEq,Prod.mk.injEq] at h
        obtain⟨rfl,rfl,he2⟩:=h
        obtain⟨o,ho,hd,_,hy⟩:=IS h1
        have hcl:BV w (ls.map fun q=>(e.i,q.1,q.2)):=fun q hq=>hc q (List.mem_append_right _ hq)
        have hcr:BV w pts2:=fun q hq=>hc q (List.mem_append_left _ hq)
        intro hL m
        refine⟨o,(match e.ov with |some v=>v|none=>u),ls.map fun q=>(e.i,q.1,q.2),ho,?_,?_,hcl,?_⟩
        · intro q hq
          obtain⟨p,_,rfl⟩:=List.mem_map.1 hq
          rfl
        · cases hov:e.ov with
          |none=>exact hy
          |some v=>
           rw[hov] at he2
           rw[←he2] at he
           exact G4 hy he.1
        · rw[hd]
          have hp:=D7 (ds:=ds) h2
          refine Eq.mpr (congrArg (fun a=>RI m P ops Q (AE (b.map (·.i)) t) (ls.map (fun q=>(e.i,q.1,q.2))++pts) a w) hp) ?_
          refine ih h3 ?_ hcr ?_ hL m
          · cases hov:e.ov with
            |none=>rw[hov] at he2;have he3:eqs2=eqs:=he2;rw[he3];exact he
            |some v=>rw[hov] at he2;rw[←he2] at he;exact he.2
          · rw[←List.append_assoc]
            exact hr
theorem Xi{t:Tr}{pts:List Pt}{i:Nat}(d:Nat)(v:Value)(h:PC ops n l i d=true)(hrun: ∀w',(execOp (fe n l) (EV ops i)).run P w'= .ok (.value v) w')
 (hr:YR P ops Q t pts (Ad ds n ((d,v)::l)) w):YR P ops Q (.fl i t) pts (Ad ds n l) w:=fun hL m=>by
 obtain⟨ho,hw,hd,hn⟩:=IU h
 refine⟨EV ops i,v,[],ho,(fun q hq=>nomatch hq),.inl ⟨by rw[CF];exact hw,fun w' _=>by rw[An];exact hrun w'⟩,Bb _,?_⟩
 rw[hd,CE hn]
 exact hr hL m
theorem Pc{j k:Nat}{t:Tr}{pts:List Pt}{d:Option Nat}{args xa:List Value}(h:Gr ops n l j=true)(hy:Rn (EV ops j) n l=some (d,k,args))(hd:Bi ops=true)(ho:dA t=true)(hkp:CK ops j pts= []){S1 S2:World→Prop}(hx:xa=args)
 (hY: ∀m,YieldAt (FW none) m P k xa.toArray w fun e w'=>(e= .returned (.bool true)∧S1 w')∨(e= .returned (.bool false)∧S2 w'))
 (h1: ∀w',S1 w'→ ∃l',EJ n l d (.bool true)=some l'∧RW P ops Q t [] (Ad ds n l') w')
 (h2: ∀w',S2 w'→ ∃l',EJ n l d (.bool false)=some l'∧RW P ops Q t [] (Ad ds n l') w'):YR P ops Q (.an j t) pts (Ad ds n l) w:=fun hL m=>by
 subst hx
 unfold RI Xf wpOpIn
 rw[hkp]
 unfold Gr at h
 cases hoj:ops[j]? with
 |none=>simp[hoj] at h
 |some o=>
  simp only[hoj] at h
  have e:EV ops j=o:=by simp[EV,hoj]
  rw[e] at hy
  simp only[CF,h,if_true]
  refine PN hy (YieldAt.mono (hY (m-1)) ?_)
  rintro e w' (⟨rfl,hs⟩|⟨rfl,hs⟩)
  · obtain⟨l',hl,hr⟩:=h1 w' hs
    exact⟨_,rfl,l',hl,Bb _,Hc hd hL m t _ _ _ ho hr⟩
  · obtain⟨l',hl,hr⟩:=h2 w' hs
    exact⟨_,rfl,l',hl,Bb _,Hc hd hL m t _ _ _ ho hr⟩
end
end Go.Proofs.YtcgkoffnknpgjaaGreatDoor
