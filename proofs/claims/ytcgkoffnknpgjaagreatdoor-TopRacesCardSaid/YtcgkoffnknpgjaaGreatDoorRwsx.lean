/-
  Maps whose elements are slices, each with a row of its own. No program in sight.
-/
import Derived.Test.YtcgkoffnknpgjaaGreatDoorMkyx
namespace Go.Proofs.YtcgkoffnknpgjaaGreatDoor
set_option linter.unusedVariables false
set_option linter.unusedSimpArgs false
section
variable {g w : World} {L : List AB}
theorem VM{α β:Type}(f:α→β){M M':List β}(h:M.Perm M'): ∀Z:List α,Z.map f=M→ ∃Z',Z'.map f=M'∧Z.Perm Z':=by
 induction h with
 |nil=>exact fun Z hZ=>⟨Z,hZ,List.Perm.refl _⟩
 |cons x _ ih=>
  intro Z hZ
  match Z,hZ with
  |z::Z,hZ=>
   simp only[List.map_cons,List.cons.injEq] at hZ
   obtain⟨Z',h1,h2⟩:=ih Z hZ.2
   exact⟨z::Z',by simp[h1,hZ.1],h2.cons z⟩
 |swap x y l=>
  intro Z hZ
  match Z,hZ with
  |a::b::Z,hZ=>
   simp only[List.map_cons,List.cons.injEq] at hZ
   exact⟨b::a::Z,by simp[hZ.1,hZ.2.1,hZ.2.2],List.Perm.swap b a Z⟩
 |trans _ _ ih1 ih2=>
  intro Z hZ
  obtain⟨Z1,h1,h2⟩:=ih1 Z hZ
  obtain⟨Z2,h3,h4⟩:=ih2 Z1 h1
  exact⟨Z2,h3,h2.trans h4⟩
theorem FA{M:List AB}(h:sat g w L)(hp:L.Perm M):sat g w M:=by
 obtain⟨s,Z,hZ,ok,pw⟩:=h
 obtain⟨Z',h1,h2⟩:=VM (·.1) hp Z hZ
 exact⟨s,Z',h1,fun z hz=>ok z (h2.mem_iff.2 hz),(h2.pairwise_iff (fun {a b} hd=>Dis.symm hd)).1 pw⟩
end
abbrev Sv:=Option Addr×Nat×Nat
def LI(s:Sv):Value:= .slice s.1 s.2.1 s.2.2
abbrev Rq:=Ky×Sv×List Int
def eJ(z:Int):List Value:= [.int .i64 z]
theorem tM:Enc 1 eJ:=⟨fun _=>rfl,fun x v hv=>by simp[eJ] at hv;subst hv;rfl⟩
section
variable {g w : World} {L : List AB} {TI : Nat}
def Tf(TI:Nat)(q:Rq):AB:=Sl TI 1 q.2.1.1 q.2.1.2.1 q.2.1.2.2 (fl eJ q.2.2)
def Gy(R:List Rq):List (Ky×Sv):=R.map fun q=>(q.1,q.2.1)
def JA(TI:Nat)(R:List Rq):AB:=Aj (R.map (Tf TI))
theorem Xb(h:sat g w L):sat g w (JA TI []::L):=AO (K:= []) h
theorem Ee{α:Type}: ∀ {M:List α} {i:Nat} {q:α},M[i]? =some q→M.Perm (q::M.eraseIdx i)
 | [],_,_,h=>by simp at h
 |a::M,0,q,h=>by
  rw[List.getElem?_cons_zero] at h
  obtain rfl:=Option.some.inj h
  exact List.Perm.refl _
 |a::M,i+1,q,h=>by
  rw[List.getElem?_cons_succ] at h
  exact((Ee h).cons a).trans (List.Perm.swap q a _)
theorem GZ{R R':List Rq}(hp:R.Perm R')(h:sat g w (JA TI R::L)):sat g w (JA TI R'::L):=by
 have h1:=AK h
 exact AO (FA h1 ((hp.map (Tf TI)).append_right L))
theorem rows_cons{R:List Rq}{q:Rq}:sat g w (JA TI (q::R)::L)↔sat g w (Tf TI q::JA TI R::L):=by
 constructor
 · intro h
   have h1:sat g w (Tf TI q::(R.map (Tf TI)++L)):=AK h
   have h2:sat g w (R.map (Tf TI)++(Tf TI q::L)):=FA h1 List.perm_middle.symm
   exact Cr (AO h2)
 · intro h
   have h1:=AK (Cr h)
   have h2:sat g w (Tf TI q::(R.map (Tf TI)++L)):=FA h1 List.perm_middle
   exact AO (K:=Tf TI q::R.map (Tf TI)) h2
theorem Pb{R:List Rq}{i:Nat}{q:Rq}(hq:R[i]? =some q)(h:sat g w (JA TI R::L)):sat g w (Tf TI q::JA TI (R.eraseIdx i)::L):=rows_cons.1 (GZ (Ee hq) h)
theorem VN{α:Type}{M:List α}{i:Nat}{q x:α}(hq:M[i]? =some q):(x::M.eraseIdx i).Perm (M.set i x):=by
 have hi:=(List.getElem?_eq_some_iff.1 hq).1
 have h1:(M.set i x)[i]? =some x:=List.getElem?_set_self hi
 have h2:=Ee h1
 rw[List.eraseIdx_set_eq] at h2
 exact h2.symm
theorem Xc{R:List Rq}{i:Nat}{q x:Rq}(hq:R[i]? =some q)(h:sat g w (Tf TI x::JA TI (R.eraseIdx i)::L)):sat g w (JA TI (R.set i x)::L):=GZ (VN hq) (rows_cons.2 h)
theorem Xd{R:List Rq}{x:Rq}(h:sat g w (Tf TI x::JA TI R::L)):sat g w (JA TI (R++ [x])::L):=GZ (List.perm_append_singleton x R).symm (rows_cons.2 h)
theorem cX(R:List Rq)(i:Nat)(x:Rq):Gy (R.set i x)=(Gy R).set i (x.1,x.2.1):=List.map_set
theorem Tg{R:List Rq}{i:Nat}{y:Ky×Sv}(h:(Gy R)[i]? =some y): ∃q,R[i]? =some q∧(q.1,q.2.1)=y:=by
 unfold Gy at h
 rw[List.getElem?_map,Option.map_eq_some_iff] at h
 exact h
theorem cY{R:List Rq}{q:Ky×Sv}(h:sat g w (JA TI R::L))(hq:q∈Gy R): ∃(l:List Int) (R':List Rq),(∀(g w:World) (L:List AB),sat g w (Sl TI 1 q.2.1 q.2.2.1 q.2.2.2 (fl eJ l)::JA TI R'::L)→sat g w (JA TI R::L))∧sat g w (Sl TI 1 q.2.1 q.2.2.1 q.2.2.2 (fl eJ l)::JA TI R'::L):=by
 obtain⟨j,hj⟩:=List.getElem?_of_mem hq
 obtain⟨x,hx,rfl⟩:=Tg hj
 exact⟨x.2.2,R.eraseIdx j,fun g w L hs=>GZ (Ee hx).symm (rows_cons.2 hs),Pb hx h⟩
theorem mJ{R:List Rq}{N:Nat}(h: ∀q∈R,q.2.1.2.1≤N){q:Ky×Sv}(hq:q∈Gy R):q.2.2.1≤N:=by
 obtain⟨x,hx,rfl⟩:=List.mem_map.1 hq
 exact h x hx
def Ml(TI m N:Nat):AB:=fun h=> ∃R:List Rq,(∀q∈R,q.2.1.2.1≤N)∧Aj [Gp kv LI m (Gy R),JA TI R] h
theorem Th{m N:Nat}(h:sat g w (Ml TI m N::L)): ∃R:List Rq,(∀q∈R,q.2.1.2.1≤N)∧sat g w (Gp kv LI m (Gy R)::JA TI R::L):=by
 obtain⟨R,h1,h2⟩:=Af (X:=List Rq) (p:=fun R=> ∀q∈R,q.2.1.2.1≤N) (B:=fun R=>Aj [Gp kv LI m (Gy R),JA TI R]) h (fun k hk=>hk)
 exact⟨R,h1,AK h2⟩
theorem HZ{m N:Nat}{R:List Rq}(h1: ∀q∈R,q.2.1.2.1≤N)(h:sat g w (Gp kv LI m (Gy R)::JA TI R::L)):sat g w (Ml TI m N::L):=
 AI (AO (K:= [Gp kv LI m (Gy R),JA TI R]) h) fun _ hk=>⟨R,h1,hk⟩
theorem mK{m N:Nat}(h:sat g w (Gp kv LI m []::L)):sat g w (Ml TI m N::L):=HZ (R:= []) (fun _ hq=>nomatch hq) (Cr (Xb (L:=Gp kv LI m []::L) h))
theorem cZ{m N N':Nat}(hn:N≤N')(h:sat g w (Ml TI m N::L)):sat g w (Ml TI m N'::L):=AI h fun _ ⟨R,h1,h2⟩=>⟨R,fun q hq=>Nat.le_trans (h1 q hq) hn,h2⟩
def MlB(TI m N:Nat)(E:List (Ky×Sv))(k:Ky)(R':List Rq):Prop:= ∀(g w:World) (L:List AB) (p:Option Addr) (n c:Nat) (l:List Int) (N':Nat),N≤N'→n≤N'→
 sat g w (Gp kv LI m (Au E k (p,n,c))::Sl TI 1 p n c (fl eJ l)::JA TI R'::L)→sat g w (Ml TI m N'::L)
theorem NS{m N:Nat}(h:sat g w (Ml TI m N::L))(k:Ky): ∃(E:List (Ky×Sv)) (p:Option Addr) (n c:Nat) (l:List Int) (R':List Rq),n≤N∧(Aa E k=some (p,n,c)∨(Aa E k=none∧p=none∧n=0∧c=0))∧MlB TI m N E k R'∧
  sat g w (Gp kv LI m E::Sl TI 1 p n c (fl eJ l)::JA TI R'::L):=by
 obtain⟨R,h1,h2⟩:=Th h
 cases hf:Bd (Gy R) k 0 with
 |none=>
  have hg:Aa (Gy R) k=none:=by rw[←GX (Gy R) k 0,hf];rfl
  refine⟨Gy R,none,0,0,[],R,Nat.zero_le _,.inr ⟨hg,rfl,rfl,rfl⟩,?_,Cr (CP TI 1 h2)⟩
  intro g w L p n c l N' hN hn hs
  rw[(FU (v:=(p,n,c)) hf).1] at hs
  have e:Gy R++ [(k,(p,n,c))]=Gy (R++ [(k,(p,n,c),l)]):=by unfold Gy;rw[List.map_append];rfl
  rw[e] at hs
  refine HZ (R:=R++ [(k,(p,n,c),l)]) (fun q hq=> ?_) (Cr (Xd (x:=(k,(p,n,c),l)) (L:=Gp kv LI m _::L) ?_))
  · rcases List.mem_append.1 hq with hq|hq
    · exact Nat.le_trans (h1 q hq) hN
    · rw[List.mem_singleton.1 hq];exact hn
  · exact FA hs ((List.Perm.swap _ _ _).trans ((List.Perm.swap _ _ _).cons _))
 |some q=>
  obtain⟨j,s⟩:=q
  obtain⟨_,h3,h4,_,_⟩:=CG (v:=s) hf
  rw[Nat.sub_zero] at h3 h4
  have hg:Aa (Gy R) k=some s:=by rw[←GX (Gy R) k 0,hf];rfl
  obtain⟨x,hx,ex⟩:=Tg h4
  obtain⟨xk,⟨p,n,c⟩,l⟩:=x
  simp only[Prod.mk.injEq] at ex
  obtain⟨rfl,rfl⟩:=ex
  refine⟨Gy R,p,n,c,l,R.eraseIdx j,h1 _ (List.mem_of_getElem? hx),.inl hg,?_,?_⟩
  · intro g w L p' n' c' l' N' hN hn hs
    have h5:=(CG (v:=(p',n',c')) hf).2.2.2.1
    rw[Nat.sub_zero] at h5
    rw[h5] at hs
    have e:(Gy R).set j (xk,(p',n',c'))=Gy (R.set j (xk,(p',n',c'),l')):=(cX R j (xk,(p',n',c'),l')).symm
    rw[e] at hs
    refine HZ (R:=R.set j (xk,(p',n',c'),l')) (fun q hq=> ?_) (Cr (Xc (L:=Gp kv LI m _::L) hx ?_))
    · rcases List.mem_or_eq_of_mem_set hq with hq|hq
      · exact Nat.le_trans (h1 q hq) hN
      · rw[hq];exact hn
    · exact FA hs ((List.Perm.swap _ _ _).trans ((List.Perm.swap _ _ _).cons _))
  · have h6:=Pb hx (Cr h2)
    exact FA h6 (List.perm_middle (l₁:= [_,_]) (a:=Gp kv LI m (Gy R)) (l₂:=L))
end
end Go.Proofs.YtcgkoffnknpgjaaGreatDoor
