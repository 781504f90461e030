/-
  Maps whose elements are slices, each with a row of its own. No program in sight.
-/
import Derived.Test.YtcgkoffnknpgjaaGreatDoorMky
namespace Go.Proofs.YtcgkoffnknpgjaaGreatDoor
set_option linter.unusedVariables false
set_option linter.unusedSimpArgs false
section
variable {g w : World} {L : List Assn}
theorem perm_lift{α β:Type}(f:α→β){M M':List β}(h:M.Perm M'): ∀Z:List α,Z.map f=M→ ∃Z',Z'.map f=M'∧Z.Perm Z':=by
 induction h with
 |nil=>exact fun Z hZ=>⟨Z,hZ,List.Perm.refl _⟩
 |cons x _ ih=>
  intro Z hZ
  match Z,hZ with
  |z::Z,hZ=>
   simp only[List.map_cons,List.cons.injEq] at hZ
   obtain⟨Z',h1,h2⟩:=ih Z hZ.2
   exact⟨z::Z',by simp[h1,hZ.1],h2.cons z⟩
 |swap x y l=>
  intro Z hZ
  match Z,hZ with
  |a::b::Z,hZ=>
   simp only[List.map_cons,List.cons.injEq] at hZ
   exact⟨b::a::Z,by simp[hZ.1,hZ.2.1,hZ.2.2],List.Perm.swap b a Z⟩
 |trans _ _ ih1 ih2=>
  intro Z hZ
  obtain⟨Z1,h1,h2⟩:=ih1 Z hZ
  obtain⟨Z2,h3,h4⟩:=ih2 Z1 h1
  exact⟨Z2,h3,h2.trans h4⟩
theorem sat_perm{M:List Assn}(h:sat g w L)(hp:L.Perm M):sat g w M:=by
 obtain⟨s,Z,hZ,ok,pw⟩:=h
 obtain⟨Z',h1,h2⟩:=perm_lift (·.1) hp Z hZ
 exact⟨s,Z',h1,fun z hz=>ok z (h2.mem_iff.2 hz),(h2.pairwise_iff (fun {a b} hd=>Dis.symm hd)).1 pw⟩
end
abbrev Sv:=Option Addr×Nat×Nat
def vSv(s:Sv):Value:= .slice s.1 s.2.1 s.2.2
abbrev Rq:=Ky×Sv×List Int
def eJ(z:Int):List Value:= [.int .i64 z]
theorem eJ_ok:Enc 1 eJ:=⟨fun _=>rfl,fun x v hv=>by simp[eJ] at hv;subst hv;rfl⟩
section
variable {g w : World} {L : List Assn} {TI : Nat}
def rwA(TI:Nat)(q:Rq):Assn:=Sl TI 1 q.2.1.1 q.2.1.2.1 q.2.1.2.2 (fl eJ q.2.2)
def rwE(R:List Rq):List (Ky×Sv):=R.map fun q=>(q.1,q.2.1)
def Rws(TI:Nat)(R:List Rq):Assn:=star (R.map (rwA TI))
theorem rows_nil(h:sat g w L):sat g w (Rws TI []::L):=sat_star (K:= []) h
theorem erase_perm'{α:Type}: ∀ {M:List α} {i:Nat} {q:α},M[i]? =some q→M.Perm (q::M.eraseIdx i)
 | [],_,_,h=>by simp at h
 |a::M,0,q,h=>by
  rw[List.getElem?_cons_zero] at h
  obtain rfl:=Option.some.inj h
  exact List.Perm.refl _
 |a::M,i+1,q,h=>by
  rw[List.getElem?_cons_succ] at h
  exact((erase_perm' h).cons a).trans (List.Perm.swap q a _)
theorem rows_perm{R R':List Rq}(hp:R.Perm R')(h:sat g w (Rws TI R::L)):sat g w (Rws TI R'::L):=by
 have h1:=sat_unstar h
 exact sat_star (sat_perm h1 ((hp.map (rwA TI)).append_right L))
theorem rows_cons{R:List Rq}{q:Rq}:sat g w (Rws TI (q::R)::L)↔sat g w (rwA TI q::Rws TI R::L):=by
 constructor
 · intro h
   have h1:sat g w (rwA TI q::(R.map (rwA TI)++L)):=sat_unstar h
   have h2:sat g w (R.map (rwA TI)++(rwA TI q::L)):=sat_perm h1 List.perm_middle.symm
   exact sat_swap (sat_star h2)
 · intro h
   have h1:=sat_unstar (sat_swap h)
   have h2:sat g w (rwA TI q::(R.map (rwA TI)++L)):=sat_perm h1 List.perm_middle
   exact sat_star (K:=rwA TI q::R.map (rwA TI)) h2
theorem rows_out{R:List Rq}{i:Nat}{q:Rq}(hq:R[i]? =some q)(h:sat g w (Rws TI R::L)):sat g w (rwA TI q::Rws TI (R.eraseIdx i)::L):=rows_cons.1 (rows_perm (erase_perm' hq) h)
theorem set_perm'{α:Type}{M:List α}{i:Nat}{q x:α}(hq:M[i]? =some q):(x::M.eraseIdx i).Perm (M.set i x):=by
 have hi:=(List.getElem?_eq_some_iff.1 hq).1
 have h1:(M.set i x)[i]? =some x:=List.getElem?_set_self hi
 have h2:=erase_perm' h1
 rw[List.eraseIdx_set_eq] at h2
 exact h2.symm
theorem rows_put{R:List Rq}{i:Nat}{q x:Rq}(hq:R[i]? =some q)(h:sat g w (rwA TI x::Rws TI (R.eraseIdx i)::L)):sat g w (Rws TI (R.set i x)::L):=rows_perm (set_perm' hq) (rows_cons.2 h)
theorem rows_add{R:List Rq}{x:Rq}(h:sat g w (rwA TI x::Rws TI R::L)):sat g w (Rws TI (R++ [x])::L):=rows_perm (List.perm_append_singleton x R).symm (rows_cons.2 h)
theorem rwE_set(R:List Rq)(i:Nat)(x:Rq):rwE (R.set i x)=(rwE R).set i (x.1,x.2.1):=List.map_set
theorem rwE_get{R:List Rq}{i:Nat}{y:Ky×Sv}(h:(rwE R)[i]? =some y): ∃q,R[i]? =some q∧(q.1,q.2.1)=y:=by
 unfold rwE at h
 rw[List.getElem?_map,Option.map_eq_some_iff] at h
 exact h
theorem rows_at{R:List Rq}{q:Ky×Sv}(h:sat g w (Rws TI R::L))(hq:q∈rwE R): ∃(l:List Int) (R':List Rq),(∀(g w:World) (L:List Assn),sat g w (Sl TI 1 q.2.1 q.2.2.1 q.2.2.2 (fl eJ l)::Rws TI R'::L)→sat g w (Rws TI R::L))∧sat g w (Sl TI 1 q.2.1 q.2.2.1 q.2.2.2 (fl eJ l)::Rws TI R'::L):=by
 obtain⟨j,hj⟩:=List.getElem?_of_mem hq
 obtain⟨x,hx,rfl⟩:=rwE_get hj
 exact⟨x.2.2,R.eraseIdx j,fun g w L hs=>rows_perm (erase_perm' hx).symm (rows_cons.2 hs),rows_out hx h⟩
theorem rwE_le{R:List Rq}{N:Nat}(h: ∀q∈R,q.2.1.2.1≤N){q:Ky×Sv}(hq:q∈rwE R):q.2.2.1≤N:=by
 obtain⟨x,hx,rfl⟩:=List.mem_map.1 hq
 exact h x hx
def Ml(TI m N:Nat):Assn:=fun h=> ∃R:List Rq,(∀q∈R,q.2.1.2.1≤N)∧star [Gp kv vSv m (rwE R),Rws TI R] h
theorem ml_open{m N:Nat}(h:sat g w (Ml TI m N::L)): ∃R:List Rq,(∀q∈R,q.2.1.2.1≤N)∧sat g w (Gp kv vSv m (rwE R)::Rws TI R::L):=by
 obtain⟨R,h1,h2⟩:=sat_open (X:=List Rq) (p:=fun R=> ∀q∈R,q.2.1.2.1≤N) (B:=fun R=>star [Gp kv vSv m (rwE R),Rws TI R]) h (fun k hk=>hk)
 exact⟨R,h1,sat_unstar h2⟩
theorem ml_close{m N:Nat}{R:List Rq}(h1: ∀q∈R,q.2.1.2.1≤N)(h:sat g w (Gp kv vSv m (rwE R)::Rws TI R::L)):sat g w (Ml TI m N::L):=
 sat_imp (sat_star (K:= [Gp kv vSv m (rwE R),Rws TI R]) h) fun _ hk=>⟨R,h1,hk⟩
theorem ml_new{m N:Nat}(h:sat g w (Gp kv vSv m []::L)):sat g w (Ml TI m N::L):=ml_close (R:= []) (fun _ hq=>nomatch hq) (sat_swap (rows_nil (L:=Gp kv vSv m []::L) h))
theorem ml_more{m N N':Nat}(hn:N≤N')(h:sat g w (Ml TI m N::L)):sat g w (Ml TI m N'::L):=sat_imp h fun _ ⟨R,h1,h2⟩=>⟨R,fun q hq=>Nat.le_trans (h1 q hq) hn,h2⟩
def MlB(TI m N:Nat)(E:List (Ky×Sv))(k:Ky)(R':List Rq):Prop:= ∀(g w:World) (L:List Assn) (p:Option Addr) (n c:Nat) (l:List Int) (N':Nat),N≤N'→n≤N'→
 sat g w (Gp kv vSv m (gset E k (p,n,c))::Sl TI 1 p n c (fl eJ l)::Rws TI R'::L)→sat g w (Ml TI m N'::L)
theorem ml_take{m N:Nat}(h:sat g w (Ml TI m N::L))(k:Ky): ∃(E:List (Ky×Sv)) (p:Option Addr) (n c:Nat) (l:List Int) (R':List Rq),n≤N∧(gget E k=some (p,n,c)∨(gget E k=none∧p=none∧n=0∧c=0))∧MlB TI m N E k R'∧
  sat g w (Gp kv vSv m E::Sl TI 1 p n c (fl eJ l)::Rws TI R'::L):=by
 obtain⟨R,h1,h2⟩:=ml_open h
 cases hf:gfind (rwE R) k 0 with
 |none=>
  have hg:gget (rwE R) k=none:=by rw[←gfind_get (rwE R) k 0,hf];rfl
  refine⟨rwE R,none,0,0,[],R,Nat.zero_le _,.inr ⟨hg,rfl,rfl,rfl⟩,?_,sat_swap (sl_nil TI 1 h2)⟩
  intro g w L p n c l N' hN hn hs
  rw[(gfind_none (v:=(p,n,c)) hf).1] at hs
  have e:rwE R++ [(k,(p,n,c))]=rwE (R++ [(k,(p,n,c),l)]):=by unfold rwE;rw[List.map_append];rfl
  rw[e] at hs
  refine ml_close (R:=R++ [(k,(p,n,c),l)]) (fun q hq=> ?_) (sat_swap (rows_add (x:=(k,(p,n,c),l)) (L:=Gp kv vSv m _::L) ?_))
  · rcases List.mem_append.1 hq with hq|hq
    · exact Nat.le_trans (h1 q hq) hN
    · rw[List.mem_singleton.1 hq];exact hn
  · exact sat_perm hs ((List.Perm.swap _ _ _).trans ((List.Perm.swap _ _ _).cons _))
 |some q=>
  obtain⟨j,s⟩:=q
  obtain⟨_,h3,h4,_,_⟩:=gfind_some (v:=s) hf
  rw[Nat.sub_zero] at h3 h4
  have hg:gget (rwE R) k=some s:=by rw[←gfind_get (rwE R) k 0,hf];rfl
  obtain⟨x,hx,ex⟩:=rwE_get h4
  obtain⟨xk,⟨p,n,c⟩,l⟩:=x
  simp only[Prod.mk.injEq] at ex
  obtain⟨rfl,rfl⟩:=ex
  refine⟨rwE R,p,n,c,l,R.eraseIdx j,h1 _ (List.mem_of_getElem? hx),.inl hg,?_,?_⟩
  · intro g w L p' n' c' l' N' hN hn hs
    have h5:=(gfind_some (v:=(p',n',c')) hf).2.2.2.1
    rw[Nat.sub_zero] at h5
    rw[h5] at hs
    have e:(rwE R).set j (xk,(p',n',c'))=rwE (R.set j (xk,(p',n',c'),l')):=(rwE_set R j (xk,(p',n',c'),l')).symm
    rw[e] at hs
    refine ml_close (R:=R.set j (xk,(p',n',c'),l')) (fun q hq=> ?_) (sat_swap (rows_put (L:=Gp kv vSv m _::L) hx ?_))
    · rcases List.mem_or_eq_of_mem_set hq with hq|hq
      · exact Nat.le_trans (h1 q hq) hN
      · rw[hq];exact hn
    · exact sat_perm hs ((List.Perm.swap _ _ _).trans ((List.Perm.swap _ _ _).cons _))
  · have h6:=rows_out hx (sat_swap h2)
    exact sat_perm h6 (List.perm_middle (l₁:= [_,_]) (a:=Gp kv vSv m (rwE R)) (l₂:=L))
end
end Go.Proofs.YtcgkoffnknpgjaaGreatDoor
