/- Walks, printed by my generator P:../out/o4.py. -/
import Derived.Test.YtcgkoffnknpgjaaGreatDoorBundle35x
import Derived.Test.YtcgkoffnknpgjaaGreatDoorInvx
import Derived.Test.YtcgkoffnknpgjaaGreatDoorBsx
import Derived.DeepKeys
namespace Go.Proofs.YtcgkoffnknpgjaaGreatDoor
set_option linter.unusedVariables false
set_option linter.unusedSimpArgs false
open Tryz
set_option maxHeartbeats 4000000
theorem Hv(b s:Nat)(Y:List Value):HQ 172 [pV b] [Cl b ((pV s)::Y) 286] (bT) [Cl b ((pV s)::Y) 286]:=by
 refine AC func172 ntmps172 fun g w0 R a=>go [rd 1 6 0 0 1 a] ?_
 exact AD _ [] a
theorem oN{g w:World}{L:List AB}{b s:Nat}{gn:Int}(h:sat g w (Cl b [pV s,iV 0,iV 0,iV 0,iV 0,iV 0,iV 0,iV 0,iV 0,iV 0,iV 0,iV 0,iV 0,iV 0,iV 0,iV 0,iV 0,iV 0,iV 0,iV 0,iV 0,iV 0,iV 0,iV 0,iV 0,iV 0,iV 0,iV 0,iV 0,iV 0,iV 0,iV 0,iV 0,iV 0,iV 0,iV 0,iV 0,iV 0,iV 0,iV 0,iV 0,iV 0,iV 0,iV 0,iV 0,iV 0,iV 0,iV 0,iV 0,iV 0,iV 0,iV 0,iV 0,iV 0,iV 0,iV 0,iV 0,iV 0,iV 0,iV 0,iV 0,iV 0,iV 0,iV 0,iV 0] 286::Tb s 64 (List.replicate 64 (0,gn))::L)):sat g w (Dk b (List.replicate 64 (0,gn,0))::L):=by
 have e:([pV s,iV 0,iV 0,iV 0,iV 0,iV 0,iV 0,iV 0,iV 0,iV 0,iV 0,iV 0,iV 0,iV 0,iV 0,iV 0,iV 0,iV 0,iV 0,iV 0,iV 0,iV 0,iV 0,iV 0,iV 0,iV 0,iV 0,iV 0,iV 0,iV 0,iV 0,iV 0,iV 0,iV 0,iV 0,iV 0,iV 0,iV 0,iV 0,iV 0,iV 0,iV 0,iV 0,iV 0,iV 0,iV 0,iV 0,iV 0,iV 0,iV 0,iV 0,iV 0,iV 0,iV 0,iV 0,iV 0,iV 0,iV 0,iV 0,iV 0,iV 0,iV 0,iV 0,iV 0,iV 0]:List Value)=(.pointer (some ⟨s,0,none⟩)::fl eI (List.replicate 64 0)):=by kernel_rfl
 rw[e] at h
 exact Dz (V:=List.replicate 64 0) ⟨List.length_replicate,P4⟩ (Yp 64 gn 0) h
theorem kY{g w:World}{L:List AB}{j b:Nat}{X:Xs}(h:sat g w L)(hj:L[j]? =some (Dk b X)):X.length=64:=D9 h hj fun _ ha _=>by
 obtain⟨x,h1,_⟩:=ha
 exact h1.1
theorem fD(gn:Int)(hgn:1≤gn∧gn≤4294967295):HT prog 71 [iV 64,uV gn] [] (fun v K=> ∃b:Nat,v= .tuple #[pV b,iV 0]∧K= [Dk b (List.replicate 64 (0,gn,0))]):=by
 refine AC func71 ntmps71 fun g w0 R h0=>g0<|cP call67 (Hi 64 om gn om) h0 ?_
 rintro v K _ (⟨c,rfl,rfl⟩) d
 have e:=B3 d
 refine g0<|nP 286 ([pV c]++List.replicate 64 (iV 0)) e (fun a j f=> ?_)
 refine g0 ?_
 have i:sat g _ (Dk a (List.replicate 64 (0,gn,0))::_):=oN f
 exact en _ [] ⟨_,_,rfl,⟨a,rfl,rfl⟩,i⟩
theorem Yv(t:Int)(ht:1≤t∧t≤1048576):HQ 360 [iV t] [] (bT) []:=by
 refine AC func360 ntmps360 fun g w0 R h0=>go [.v 1 1 (oT (t≥1)),.v 1 4 (oT (t≤1048576))] ?_
 exact AD _ [] h0
theorem Yw(t:Int)(ht:0≤t∧t≤1099511627776):HQ 361 [iV t] [] (bT) []:=by
 refine AC func361 ntmps361 fun g w0 R h0=>go [.v 1 1 (oT (t≥0)),.v 1 4 (oT (t≤1099511627776))] ?_
 exact AD _ [] h0
theorem Vp(t now:Int)(ht:1≤t∧t≤1048576)(hn:1099511627776-t<now):HQ 363 [iV t,iV now] [] (.tuple #[iV 0,iV 17]) []:=by
 refine AC func363 ntmps363 fun g w0 R h0=>go [.v 1 2 (oI (1099511627776-t) (-t+1099511627776)),.v 1 3 (oT (now> -t+1099511627776))] ?_
 exact AD _ [] h0
theorem fF(t now:Int)(ht:1≤t∧t≤1048576)(a:0≤now)(hn: ¬1099511627776-t<now):HQ 363 [iV t,iV now] [] (.tuple #[iV (now+t),iV 0]) []:=by
 refine AC func363 ntmps363 fun g w0 R a=>go [.v 1 2 (oI (1099511627776-t) (-t+1099511627776)),.v 1 3 (oF (now> -t+1099511627776)),.v 3 2 (CD (now+t))] ?_
 exact AD _ [] a
theorem UP(x y z:Int):HQ 404 [.agg #[iV x,iV y,uV z]] [] (.agg #[iV y,uV z]) []:=by
 refine AC func404 ntmps404 fun g w0 R h0=>g0<|nP 48 [iV x,iV y,uV z] h0 (fun _ _ d=> ?_)
 refine nP 203 [iV 0,uV 0] d (fun _ _ a=> ?_)
 refine go [rd 1 1 1 1 1 a,rd 1 3 1 2 1 a]<|sA [iV y,uV z] a fun _ c=>g0 ?_
 exact AD _ [rd 0 0 0 0 2 c] c.b.t1
theorem QA(b:Nat)(X:Xs):HT prog 108 [pV b] [Dk b X] (fun v K=> ∃i:Nat,v=pV i∧K= [Dk b X,Dk i X]):=by
 refine AC func108 ntmps108 fun g w0 R h0=> ?_
 obtain⟨c,V11,hP12,k⟩:=Jl h0
 have l:=DJ (j:=1) k rfl
 have hAl_:=l.1;have hok_:=l.2.2.2
 have p:sat g w0 [Cl b (List.replicate 0 (pV c)++ [pV c,iV (V11.getD 0 0),iV (V11.getD 1 0),iV (V11.getD 2 0),iV (V11.getD 3 0),iV (V11.getD 4 0),iV (V11.getD 5 0),iV (V11.getD 6 0),iV (V11.getD 7 0),iV (V11.getD 8 0),iV (V11.getD 9 0),iV (V11.getD 10 0),iV (V11.getD 11 0),iV (V11.getD 12 0),iV (V11.getD 13 0),iV (V11.getD 14 0),iV (V11.getD 15 0),iV (V11.getD 16 0),iV (V11.getD 17 0),iV (V11.getD 18 0),iV (V11.getD 19 0),iV (V11.getD 20 0),iV (V11.getD 21 0),iV (V11.getD 22 0),iV (V11.getD 23 0),iV (V11.getD 24 0),iV (V11.getD 25 0),iV (V11.getD 26 0),iV (V11.getD 27 0),iV (V11.getD 28 0),iV (V11.getD 29 0),iV (V11.getD 30 0),iV (V11.getD 31 0),iV (V11.getD 32 0),iV (V11.getD 33 0),iV (V11.getD 34 0),iV (V11.getD 35 0),iV (V11.getD 36 0),iV (V11.getD 37 0),iV (V11.getD 38 0),iV (V11.getD 39 0),iV (V11.getD 40 0),iV (V11.getD 41 0),iV (V11.getD 42 0),iV (V11.getD 43 0),iV (V11.getD 44 0),iV (V11.getD 45 0),iV (V11.getD 46 0),iV (V11.getD 47 0),iV (V11.getD 48 0),iV (V11.getD 49 0),iV (V11.getD 50 0),iV (V11.getD 51 0),iV (V11.getD 52 0),iV (V11.getD 53 0),iV (V11.getD 54 0),iV (V11.getD 55 0),iV (V11.getD 56 0),iV (V11.getD 57 0),iV (V11.getD 58 0),iV (V11.getD 59 0),iV (V11.getD 60 0),iV (V11.getD 61 0),iV (V11.getD 62 0),iV (V11.getD 63 0)]) 286,Tb c 64 (As X),R]:=by have h_:=k;rw[oH hP12.2.1] at h_;exact h_
 refine g0<|AF call172 (Hv b c [iV (V11.getD 0 0),iV (V11.getD 1 0),iV (V11.getD 2 0),iV (V11.getD 3 0),iV (V11.getD 4 0),iV (V11.getD 5 0),iV (V11.getD 6 0),iV (V11.getD 7 0),iV (V11.getD 8 0),iV (V11.getD 9 0),iV (V11.getD 10 0),iV (V11.getD 11 0),iV (V11.getD 12 0),iV (V11.getD 13 0),iV (V11.getD 14 0),iV (V11.getD 15 0),iV (V11.getD 16 0),iV (V11.getD 17 0),iV (V11.getD 18 0),iV (V11.getD 19 0),iV (V11.getD 20 0),iV (V11.getD 21 0),iV (V11.getD 22 0),iV (V11.getD 23 0),iV (V11.getD 24 0),iV (V11.getD 25 0),iV (V11.getD 26 0),iV (V11.getD 27 0),iV (V11.getD 28 0),iV (V11.getD 29 0),iV (V11.getD 30 0),iV (V11.getD 31 0),iV (V11.getD 32 0),iV (V11.getD 33 0),iV (V11.getD 34 0),iV (V11.getD 35 0),iV (V11.getD 36 0),iV (V11.getD 37 0),iV (V11.getD 38 0),iV (V11.getD 39 0),iV (V11.getD 40 0),iV (V11.getD 41 0),iV (V11.getD 42 0),iV (V11.getD 43 0),iV (V11.getD 44 0),iV (V11.getD 45 0),iV (V11.getD 46 0),iV (V11.getD 47 0),iV (V11.getD 48 0),iV (V11.getD 49 0),iV (V11.getD 50 0),iV (V11.getD 51 0),iV (V11.getD 52 0),iV (V11.getD 53 0),iV (V11.getD 54 0),iV (V11.getD 55 0),iV (V11.getD 56 0),iV (V11.getD 57 0),iV (V11.getD 58 0),iV (V11.getD 59 0),iV (V11.getD 60 0),iV (V11.getD 61 0),iV (V11.getD 62 0),iV (V11.getD 63 0)]) p fun _ q=>g0<|dw (AE [0,1,2,3,5,6,7,8] (Tr.an 4 (Tr.fl 9 (Tr.an 10 (Tr.fl 11 Tr.nil))))) q fun _ f=> ?_
 have s:=f.a.t3
 refine go [rd 3 3 0 0 1 f,rd 3 8 0 1 64 f]<|cG call120 (EN c 64 (As X)) s ?_
 rintro v K _ (⟨d,rfl,rfl⟩) t
 have m:=CW t
 refine⟨kd [rd 0 8 2 1 64 m],?_⟩
 refine g0<|nG (fun q_=>pV q_) 286 (List.replicate 0 (pV d)++ [pV d,iV (V11.getD 0 0),iV (V11.getD 1 0),iV (V11.getD 2 0),iV (V11.getD 3 0),iV (V11.getD 4 0),iV (V11.getD 5 0),iV (V11.getD 6 0),iV (V11.getD 7 0),iV (V11.getD 8 0),iV (V11.getD 9 0),iV (V11.getD 10 0),iV (V11.getD 11 0),iV (V11.getD 12 0),iV (V11.getD 13 0),iV (V11.getD 14 0),iV (V11.getD 15 0),iV (V11.getD 16 0),iV (V11.getD 17 0),iV (V11.getD 18 0),iV (V11.getD 19 0),iV (V11.getD 20 0),iV (V11.getD 21 0),iV (V11.getD 22 0),iV (V11.getD 23 0),iV (V11.getD 24 0),iV (V11.getD 25 0),iV (V11.getD 26 0),iV (V11.getD 27 0),iV (V11.getD 28 0),iV (V11.getD 29 0),iV (V11.getD 30 0),iV (V11.getD 31 0),iV (V11.getD 32 0),iV (V11.getD 33 0),iV (V11.getD 34 0),iV (V11.getD 35 0),iV (V11.getD 36 0),iV (V11.getD 37 0),iV (V11.getD 38 0),iV (V11.getD 39 0),iV (V11.getD 40 0),iV (V11.getD 41 0),iV (V11.getD 42 0),iV (V11.getD 43 0),iV (V11.getD 44 0),iV (V11.getD 45 0),iV (V11.getD 46 0),iV (V11.getD 47 0),iV (V11.getD 48 0),iV (V11.getD 49 0),iV (V11.getD 50 0),iV (V11.getD 51 0),iV (V11.getD 52 0),iV (V11.getD 53 0),iV (V11.getD 54 0),iV (V11.getD 55 0),iV (V11.getD 56 0),iV (V11.getD 57 0),iV (V11.getD 58 0),iV (V11.getD 59 0),iV (V11.getD 60 0),iV (V11.getD 61 0),iV (V11.getD 62 0),iV (V11.getD 63 0)]) m (fun e o u=>⟨kd [],?_⟩)
 refine g0 ?_
 have x:sat g o [Cl e ((pV d)::fl eI V11) 286,Tb c 64 (As X),Tb d 64 (As X),Cl b (List.replicate 0 (pV c)++ [pV c,iV (V11.getD 0 0),iV (V11.getD 1 0),iV (V11.getD 2 0),iV (V11.getD 3 0),iV (V11.getD 4 0),iV (V11.getD 5 0),iV (V11.getD 6 0),iV (V11.getD 7 0),iV (V11.getD 8 0),iV (V11.getD 9 0),iV (V11.getD 10 0),iV (V11.getD 11 0),iV (V11.getD 12 0),iV (V11.getD 13 0),iV (V11.getD 14 0),iV (V11.getD 15 0),iV (V11.getD 16 0),iV (V11.getD 17 0),iV (V11.getD 18 0),iV (V11.getD 19 0),iV (V11.getD 20 0),iV (V11.getD 21 0),iV (V11.getD 22 0),iV (V11.getD 23 0),iV (V11.getD 24 0),iV (V11.getD 25 0),iV (V11.getD 26 0),iV (V11.getD 27 0),iV (V11.getD 28 0),iV (V11.getD 29 0),iV (V11.getD 30 0),iV (V11.getD 31 0),iV (V11.getD 32 0),iV (V11.getD 33 0),iV (V11.getD 34 0),iV (V11.getD 35 0),iV (V11.getD 36 0),iV (V11.getD 37 0),iV (V11.getD 38 0),iV (V11.getD 39 0),iV (V11.getD 40 0),iV (V11.getD 41 0),iV (V11.getD 42 0),iV (V11.getD 43 0),iV (V11.getD 44 0),iV (V11.getD 45 0),iV (V11.getD 46 0),iV (V11.getD 47 0),iV (V11.getD 48 0),iV (V11.getD 49 0),iV (V11.getD 50 0),iV (V11.getD 51 0),iV (V11.getD 52 0),iV (V11.getD 53 0),iV (V11.getD 54 0),iV (V11.getD 55 0),iV (V11.getD 56 0),iV (V11.getD 57 0),iV (V11.getD 58 0),iV (V11.getD 59 0),iV (V11.getD 60 0),iV (V11.getD 61 0),iV (V11.getD 62 0),iV (V11.getD 63 0)]) 286,R]:=by rw[oH hP12.2.1];exact u
 have y:sat g _ (Dk e X::_):=Dz hP12 rfl x.b.a.t5
 have z:sat g o [Cl b ((pV c)::fl eI V11) 286,Dk e X,Tb c 64 (As X),R]:=by rw[oH hP12.2.1];exact y.b.t4
 have A:sat g _ (Dk b X::_):=Dz hP12 rfl z.b.a.t4
 exact en _ [] ⟨_,_,rfl,⟨e,rfl,rfl⟩,A⟩
theorem Yx(b:Nat)(X:Xs)(t now:Int)(ht:1≤t∧t≤1048576)(hn:0≤now∧now≤1099511627776):HT prog 346 [pV b,iV t,iV now] [Dk b X] (fun r K=>r= .tuple #[.agg #[iV (Dy X t now).1,iV (Dy X t now).2.1,uV (Dy X t now).2.2],iV (Fb X t now)]∧K= [Dk b (LS X t now)]):=by
 refine AC func346 ntmps346 fun g w0 R h0=>g0<|nP 48 [iV 0,iV 0,uV 0] h0 (fun T _ D=> ?_)
 obtain⟨f,V15,hP16,l⟩:=Jl D.a.t3
 have m:=DJ (j:=1) l rfl
 have hAl_:=m.1;have hok_:=m.2.2.2
 refine g0<|AF call172 (Hv b f (fl eI V15)) l fun _ E=>g0<|AP call360 (Yv t om) E fun _ F=>g0<|AP call361 (Yw now om) F fun _ o=>g0 ?_
 by_cases U:1099511627776-t<now
 ·
  refine AP call363 (Vp t now om om) o fun _ G=> ?_
  have H:=G.b.t4
  refine g0<|sA [iV 0,iV 0,uV 0] H fun V p=>g0 ?_
  have hp_:=Yn (X:=X) (t:=t) (now:=now) om
  have I:sat g _ (Dk b X::_):=Dz hP16 rfl p.b.b.t4
  exact en (.tuple #[.agg #[iV 0,iV 0,uV 0],iV 17]) [rd 0 0 0 0 3 p] ⟨_,[Dk b X],rfl,⟨by rw[hp_.1,hp_.2.1],by rw[hp_.2.2]⟩,I.B.t2⟩
 refine AP call363 (fF t now om om om) o fun _ q=> ?_
 have J:=q.a.t4
 refine go [rd 8 3 0 0 1 q]<|AF call231 (Gb f 64 (As X)) J fun _ L=>g0<|nP 203 [iV 0,uV 0] L (fun W _ M=> ?_)
 refine sA [iV ((Bn (As X)).1),uV ((Bn (As X)).2.1)] M fun _ u=>go [.s 9 1] ?_
 by_cases Y:(Bn (As X)).2.2=0
 ·
  obtain⟨htk_,i_,g_,u_,hf_,hx_,hi_,hg_,hA_⟩:=Md (X:=X) (v:=now+t) om
  have d:i_<64:=by have h_:=(List.getElem?_eq_some_iff.1 hx_).1;rw[hP16.1] at h_;exact h_
  refine go [.v 9 1 (Db ((Bn (As X)).2.2) 0)]<|dw (AE [0,1,2,3,4,5,6] (Tr.an 7 Tr.nil)) u fun _ y=>go [rd 11 2 0 0 1 y,.s 11 6]<|lw (.pointer (some ⟨b,i_+1,none⟩)) (fun _=>AA (x:=Ot 53) (i:=Ot 50) (b:=b) (off:=1) (z:=((Bn (As X)).1)) kr underlying284 1 kr i_ kr kr om om (i_+1) om _) ?_
  have N:=y.b.t5
  refine AH ?_
  refine Bc [(i_+1,iV (now+t))] (cs':=((pV f)::fl eI (V15.set i_ (now+t)))) kr kr (G5 ⟨⟨by rw[uE,hP16.2.1];omega,rfl⟩,trivial⟩) (uF om (by rw[hP16.2.1];omega)) N ?_
  intro _ k
  refine⟨kd [],IK ?_⟩
  have O:=k.c.t5
  refine go [rd 12 1 1 0 1 k,rd 12 3 1 1 1 k]<|sA [iV 3,iV ((Bn (As X)).1),uV ((Bn (As X)).2.1)] O fun Z A=>g0 ?_
  have hp_:=oA (t:=t) (now:=now) (show ¬1099511627776-t<now from by omega) hf_
  have P:sat g _ (Dk b (LS X t now)::_):=Dz (by rw[hp_.2.2];exact oC hP16 d) (hA_.trans (by rw[hp_.2.2])) A.c.b.t5
  exact en (.tuple #[.agg #[iV 3,iV ((Bn (As X)).1),uV ((Bn (As X)).2.1)],iV 0]) [rd 0 0 0 0 3 A] ⟨_,_,rfl,⟨by rw[hp_.1,hp_.2.1,hi_,hg_],rfl⟩,P.c.a.t2⟩
 have Q:=u.c.t5
 refine go [.v 9 1 (Tc ((Bn (As X)).2.2) 0)]<|sA [iV 0,iV 0,uV 0] Q fun aa C=>g0 ?_
 have ht_:=Mc (X:=X) om;have hp_:=Yo (t:=t) (now:=now) (show ¬1099511627776-t<now from by omega) ht_.1;have e:=ht_.2.1
 have S:sat g _ (Dk b X::_):=Dz hP16 ht_.2.2 C.b.c.t5
 exact en (.tuple #[.agg #[iV 0,iV 0,uV 0],iV ((Bn (As X)).2.2)]) [rd 0 0 0 0 3 C] ⟨_,[Dk b X],rfl,⟨by rw[hp_.1,hp_.2.1,e],by rw[hp_.2.2]⟩,S.c.a.t2⟩
theorem SN(b s:Nat)(V:List Int)(hV:V.length=64)(c1 c2:Nat)(a:Option Addr)(X:Xs)(y z:Int)(q:Nat)(hat:(As X)[q]? =some (1,z))(hy:y=(q:Int)):HQ 481 [.pointer a,pV c1,pV c2] [Cl b ((pV s)::fl eI V) 286,Tb s 64 (As X),Cl c1 [pV b] 185,Cl c2 [iV 3,iV y,uV z] 48] (iV 0) [Cl b ((pV s)::fl eI V) 286,Tb s 64 (Ak (As X) q z),Cl c1 [pV b] 185,Cl c2 [iV 3,iV y,uV z] 48]:=by
 refine AC func481 ntmps481 fun g w0 R h0=>g0<|dw (AE [0,1,2,3,4] (Tr.an 5 (Tr.an 6 (Tr.fl 7 Tr.nil)))) h0 fun _ c=>go [rd 1 0 2 0 1 c,rd 1 3 0 0 1 c,rd 1 4 3 0 3 c]<|CJ call404 (UP 3 y z) c fun _ d=>⟨kd [rd 0 3 0 0 1 d,rd 0 0 2 0 1 d],?_⟩
 refine BZ call382 (Hk s 64 (As X) q (1,z) hat y z ⟨by omega,rfl,rfl⟩) d.a.t5 fun _ e=>⟨kd [],?_⟩
 refine g0 ?_
 exact AD _ [] e.a.t5
theorem fG(b c1 c2:Nat)(X:Xs)(y z:Int)(q:Nat)(hat:(As X)[q]? =some (1,z))(hy:y=(q:Int))(hz:1≤z∧z≤4294967295):HQ 359 [pV b,.agg #[iV 3,iV y,uV z],bT,.func (Fn.func 481) #[] #[pV c1,pV c2]] [Dk b X,Cl c1 [pV b] 185,Cl c2 [iV 3,iV y,uV z] 48] (iV 0) [Dk b (GF X (3,y,z)),Cl c1 [pV b] 185,Cl c2 [iV 3,iV y,uV z] 48]:=by
 refine AC func359 ntmps359 fun g w0 R m=> ?_
 have hbd_:=kY (j:=0) m rfl;have e:q<64:=by have h_:=(List.getElem?_eq_some_iff.1 hat).1;rw[E1,hbd_] at h_;exact h_
 refine g0<|nP 48 [iV 3,iV y,uV z] m (fun G _ A=> ?_)
 obtain⟨f,V15,hP16,o⟩:=Jl A.a.t5
 have p:=DJ (j:=1) o rfl
 have hAl_:=p.1;have hok_:=p.2.2.2
 refine g0<|AF call172 (Hv b f (fl eI V15)) o fun _ k=>go [rd 3 4 2 0 1 k,rd 3 8 2 0 3 k]<|AP call273 (Bg 3 y z om om om) k fun _ B=>g0<|dw (AE [0,1,2,3,4] (Tr.an 5 (Tr.an 6 (Tr.fl 7 Tr.nil)))) B fun _ l=>go [rd 5 3 0 0 1 l,rd 5 4 2 0 3 l]<|CJ call404 (UP 3 y z) l fun _ t=>⟨kd [rd 0 3 0 0 1 t],?_⟩
 refine BZ call325 (GA f 64 (As X) q (1,z) hat y z ⟨by omega,rfl,rfl⟩) t.a.t6 fun _ C=>⟨kd [],?_⟩
 refine g0<|dw (AE [0,1,2,3,4,5,6] (Tr.an 7 (Tr.fl 8 Tr.nil))) C fun _ u=>go [rd 8 3 2 1 1 u,.s 8 6]<|lw (.pointer (some ⟨b,q+1,none⟩)) (fun _=>AA (x:=Ot 42) (i:=Ot 40) (b:=b) (off:=1) (z:=y) kr underlying284 1 kr q kr kr om om (q+1) om _)<|Rb call481 (SN b f V15 hP16.2.1 c1 c2 (some ⟨b,q+1,none⟩) X y z q hat hy) u.d.d.b.c.t6 fun H E=>⟨kd [],?_⟩
 refine g0 ?_
 have F:sat g _ (Dk b (GF X (3,y,z))::_):=Dz (oE hP16) (Me X (3,y,z) hy) E
 exact AD _ [] F.D.t4
theorem SO(b:Nat)(X:Xs)(y z:Int)(q:Nat)(hat:(As X)[q]? =some (1,z))(hy:y=(q:Int))(hz:1≤z∧z≤4294967295):HQ 454 [pV b,.agg #[iV 3,iV y,uV z]] [Dk b X] (iV 0) [Dk b (GF X (3,y,z))]:=by
 refine AC func454 ntmps454 fun g w0 R h0=>g0<|nP 185 [pV b] h0 (fun e _ f=> ?_)
 refine nP 48 [iV 3,iV y,uV z] f (fun i _ d=> ?_)
 have j:=d.a.b.t4
 refine go [rd 1 0 1 0 1 d,rd 1 1 0 0 3 d]<|IM call359 (fG b e i X y z q hat hy hz) j fun _ k=>g0 ?_
 exact AD _ [] k.c.a.t2
theorem fH(b:Nat)(X:Xs):HT prog 547 [pV b] [Dk b X] (fun v K=> ∃(p:Option Addr) (c:Nat),v= .slice p ((AJ 1 (As X) 0).length) c∧K= [Dk b X,Sl 48 3 p ((AJ 1 (As X) 0).length) c (fl eO (C2 3 X))]):=by
 refine AC func547 ntmps547 fun g w0 R h0=> ?_
 obtain⟨C,V11,hP12,D⟩:=Jl h0
 have E:=DJ (j:=1) D rfl
 have hAl_:=E.1;have hok_:=E.2.2.2
 refine g0<|AF call172 (Hv b C (fl eI V11)) D fun _ F=> ?_
 have M:=F.a.t3
 refine go [rd 4 3 0 0 1 F]<|cP call459 (GB C 64 (As X)) M ?_
 rintro v K Z (⟨m,q,rfl,rfl⟩) N
 have O:=CW N
 refine g0 ?_
 have G:sat g _ (Dk b X::_):=Dz hP12 rfl O.b.t4
 have hB_:=kY (j:=0) G rfl;have hl_:((AJ 1 (As X) 0).length)≤64:=by have d:=DU 1 (As X) 0;rw[E1,hB_] at d;exact d
 have P:sat g _ (Sl 48 3 none 0 0 (fl eO [])::_):=CP 48 3 G
 refine Jc (fun mz_ a w=> ∃i:Nat,∃f:Option Addr,∃l:Nat,∃lr:Fr,mz_=((AJ 1 (As X) 0).length)-i∧(i≤((AJ 1 (As X) 0).length))∧a=mk 29 (([(3,.slice f i l),(13,.slice m ((AJ 1 (As X) 0).length) q),(14,iV (((AJ 1 (As X) 0).length:Nat):Int)),(15,iV i)]:Fr)++lr)∧sat g w [Sl 48 3 f i l (fl eO ((C2 3 X).take i)),Sl 203 2 m ((AJ 1 (As X) 0).length) q (fl He (AJ 1 (As X) 0)),Dk b X,R]) (((AJ 1 (As X) 0).length)-0) ⟨0,none,0,_,rfl,(Nat.zero_le _),(Ck [.k 3 (.slice none 0 0),.k 13 (.slice m ((AJ 1 (As X) 0).length) q),.k 14 (iV (((AJ 1 (As X) 0).length:Nat):Int)),.o 15 (oJ .i64 0 (0:Int))]),P.b.a.t4⟩ ?_
 rintro aa ab ac ⟨i,f,l,ad,rfl,hi,rfl,y⟩
 refine ga<|go [.s 5 0] ?_
 by_cases H:(i:Int)<(((AJ 1 (As X) 0).length:Nat):Int)
 ·
  obtain⟨z,A⟩:=Av (j:=1) y rfl om
  refine go [.v 5 0 (oT _ H),.s 6 0]<|AS (.pointer (some ⟨z,i*2,none⟩)) (Ft (Ot 13) (Ot 15) m z 0 (i:Int) ((AJ 1 (As X) 0).length) q underlying392 2 i A (i*2)) ?_
  have t:=y.a.t4
  have ae:=Ca Bf dc t
  have I:(AJ 1 (As X) 0)[i]? =some (DC X i,EW X i):=by unfold DC EW;rw[List.getElem?_eq_getElem om,getD_some (List.getElem?_eq_getElem om)]
  refine go [.r 6 1 z (i*2) [iV ((DC X i:Nat):Int),uV (EW X i)] ⟨CM 0 t rfl A Bf 0 (iV ((DC X i:Nat):Int)) I (i*2),CM 0 t rfl A Bf 1 (uV (EW X i)) I (i*2+1),trivial⟩]<|nP 203 [iV 0,uV 0] t (fun af _ Q=> ?_)
  refine sA [iV ((DC X i:Nat):Int),uV (EW X i)] Q fun _ B=>go [rd 7 2 0 0 1 B,rd 7 4 0 1 1 B]<|nG (fun q_=> .slice (some ⟨q_,0,none⟩) 1 1) 48 [iV 3,iV ((DC X i:Nat):Int),uV (EW X i)] B (fun S _ T=>⟨kd [],?_⟩)
  have J:=T.c.t6
  refine AH ?_
  refine aA 26 3 (Ot 19) (Ot 25) (.agg #[iV 0,iV 0,uV 0]) f i l 1 1 (⟨S,0,none⟩) 24 underlying514 J (fl eO [(3,((DC X i:Nat):Int),(EW X i))]) rfl (Br J rfl) (Aw B6 _) (i+1) ?_
  intro u x ag U
  have L:sat g _ (Sl 48 3 u (i+1) x (fl eO (((C2 3 X).take i)++ [(3,((DC X i:Nat):Int),(EW X i))]))::_):=sJ U
  obtain⟨ah,ai⟩:=BH L
  refine B1<|go [.v 8 0 (CD ((i:Int)+1))] ?_
  refine ET ?_
  have V:sat g _ (Sl 48 3 u (i+1) x (fl eO ((C2 3 X).take (i+1)))::_):=AI L (fun _ hh_=>by rw[show ((((C2 3 X).take i)++ [(3,((DC X i:Nat):Int),(EW X i))]):List Ky)=((C2 3 X).take (i+1)) from (Mb om)] at hh_;exact hh_)
  have W:=V.e.e.e.c.t6.t4
  change ∃n',n'<_∧_
  refine⟨(((AJ 1 (As X) 0).length)-(i+1)),by omega,(i+1),u,x,_,rfl,om,(Ck [.k 3 (.slice u (i+1) x),.k 13 (.slice m ((AJ 1 (As X) 0).length) q),.k 14 (iV (((AJ 1 (As X) 0).length:Nat):Int)),.o 15 (oJ .i64 ((i:Int)+1) (((i+1):Nat):Int))]),W⟩
 refine go [.v 5 0 (oF _ H)]<|up<|g0 ?_
 have hi_:i=((AJ 1 (As X) 0).length):=by omega
 have Y:sat g _ (Sl 48 3 f ((AJ 1 (As X) 0).length) l (fl eO (C2 3 X))::_):=AI y (fun _ hh_=>by rw[hi_,List.take_of_length_le (by rw[GH];exact Nat.le_refl _)] at hh_;exact hh_)
 exact en (.slice f i l) [] ⟨_,_,rfl,⟨f,l,by rw[hi_],rfl⟩,Y.b.t4.c.b.b.t3⟩
theorem Wz:KyOk prog 48 kv:=yP Xp
theorem fI(ta x y z wy an:Int)(t:0≤z)(u:z≤4294967295):HQ 304 [.agg #[iV ta,iV x,iV y,uV z,iV wy,iV an]] [] (iV (Hs ⟨ta,(x,y,z),wy,an⟩)) []:=by
 refine AC func304 ntmps304 fun g w0 R h0=>g0<|nP 50 [iV ta,iV x,iV y,uV z,iV wy,iV an] h0 (fun _ _ b=> ?_)
 refine go [rd 1 1 0 0 1 b,.s 1 2] ?_
 by_cases d:ta<0
 ·
  refine go [.v 1 2 (oT _ d)] ?_
  exact en (iV 2) [] ⟨_,_,rfl,⟨by unfold Hs;rw[if_neg (by simp only[FH,CU];omega)],rfl⟩,b.a.t1⟩
 refine go [.v 1 2 (oF _ d),rd 1 5 0 0 1 b,.s 1 6] ?_
 by_cases e:ta>1099511627776
 ·
  refine go [.v 1 6 (oT _ e)] ?_
  exact en (iV 2) [] ⟨_,_,rfl,⟨by unfold Hs;rw[if_neg (by simp only[FH,CU];omega)],rfl⟩,b.a.t1⟩
 refine go [.v 1 6 (oF _ e),rd 1 10 0 1 3 b] ?_
 by_cases A:1≤x
 ·
  by_cases B:x≤3;rotate_left
  ·
   refine AP call273 (Ao x y z om om om) b fun _ l=>g0 ?_
   exact en (iV 2) [] ⟨_,_,rfl,⟨by unfold Hs;rw[if_neg (by simp only[FH,CU];omega)],rfl⟩,l.a.t1⟩
  by_cases C:0≤y;rotate_left
  ·
   refine AP call273 (Ao x y z om om om) b fun _ m=>g0 ?_
   exact en (iV 2) [] ⟨_,_,rfl,⟨by unfold Hs;rw[if_neg (by simp only[FH,CU];omega)],rfl⟩,m.a.t1⟩
  by_cases D:y≤63;rotate_left
  ·
   refine AP call273 (Ao x y z om om om) b fun _ o=>g0 ?_
   exact en (iV 2) [] ⟨_,_,rfl,⟨by unfold Hs;rw[if_neg (by simp only[FH,CU];omega)],rfl⟩,o.a.t1⟩
  by_cases E:1≤z;rotate_left
  ·
   refine AP call273 (Ao x y z om om om) b fun _ p=>g0 ?_
   exact en (iV 2) [] ⟨_,_,rfl,⟨by unfold Hs;rw[if_neg (by simp only[FH,CU];omega)],rfl⟩,p.a.t1⟩
  refine AP call273 (Bg x y z om om om) b fun _ c=>go [rd 1 16 0 4 1 c,.s 1 17] ?_
  by_cases f:wy<1
  ·
   refine go [.v 1 17 (oT _ f)] ?_
   exact en (iV 2) [] ⟨_,_,rfl,⟨by unfold Hs;rw[if_neg (by simp only[FH,CU];omega)],rfl⟩,c.a.t1⟩
  refine go [.v 1 17 (oF _ f),rd 1 21 0 4 1 c,.s 1 22] ?_
  by_cases i:wy>3
  ·
   refine go [.v 1 22 (oT _ i)] ?_
   exact en (iV 2) [] ⟨_,_,rfl,⟨by unfold Hs;rw[if_neg (by simp only[FH,CU];omega)],rfl⟩,c.a.t1⟩
  refine go [.v 1 22 (oF _ i),rd 1 26 0 5 1 c,.s 1 27] ?_
  by_cases j:an<1
  ·
   refine go [.v 1 27 (oT _ j)] ?_
   exact en (iV 2) [] ⟨_,_,rfl,⟨by unfold Hs;rw[if_neg (by simp only[FH,CU];omega)],rfl⟩,c.a.t1⟩
  refine go [.v 1 27 (oF _ j),rd 1 31 0 5 1 c,.s 1 32] ?_
  by_cases k:an>3
  ·
   refine go [.v 1 32 (oT _ k)] ?_
   exact en (iV 2) [] ⟨_,_,rfl,⟨by unfold Hs;rw[if_neg (by simp only[FH,CU];omega)],rfl⟩,c.a.t1⟩
  refine go [.v 1 32 (oF _ k)] ?_
  exact en (iV 0) [] ⟨_,_,rfl,⟨by unfold Hs;rw[if_pos (by simp only[FH,CU];omega)],rfl⟩,c.a.t1⟩
 refine AP call273 (Ao x y z om om om) b fun _ q=>g0 ?_
 exact en (iV 2) [] ⟨_,_,rfl,⟨by unfold Hs;rw[if_neg (by simp only[FH,CU];omega)],rfl⟩,q.a.t1⟩
theorem Hw(b:Nat)(a:Value)(m:Nat):HQ 42 [pV b] [Cl b [a,.map (some m)] 117] (bT) [Cl b [a,.map (some m)] 117]:=by
 refine AC func42 ntmps42 fun g w0 R c=>go [rd 1 6 0 1 1 c] ?_
 exact AD _ [] c
theorem QB:HT prog 73 [] [] (fun v K=> ∃b:Nat,v=pV b∧K= [Lg b []]):=by
 refine AC func73 ntmps73 fun g w0 R h0=>g0 ?_
 refine AH ?_
 refine Bw (t:=115) (d:=1) kv LI kr kr rfl h0 ?_
 intro c _ f
 refine B1<|g0<|nP 117 [.slice none 0 0,.map (some c)] f (fun e m i=> ?_)
 refine g0 ?_
 have j:sat g _ (Ml 3 c 0::_):=mK i.a.t3
 have k:sat g _ (Sl 50 6 none 0 0 (fl DM [])::_):=CP 50 6 j
 have l:sat g _ (Lg e []::_):=EP (Nat.zero_le _) rfl k.b.t4
 exact en _ [] ⟨_,_,rfl,⟨e,rfl,rfl⟩,l⟩
theorem GI(b:Nat)(T:List At):HQ 418 [pV b] [Lg b T] (iV (T.length:Int)) [Lg b T]:=by
 refine AC func418 ntmps418 fun g w0 R h0=> ?_
 obtain⟨c,d,e,f,i⟩:=Hu h0
 refine g0<|AF call42 (Hw b (.slice c T.length d) e) i fun k a=>go [rd 3 3 0 0 1 a] ?_
 have j:sat g _ (Lg b T::_):=EP f rfl a
 exact AD (iV (T.length:Int)) [] j
theorem KT(b:Nat)(T:List At)(ta x y z wy an:Int)(cb:0≤z)(cc:z≤4294967295)(hat:FH (⟨ta,(x,y,z),wy,an⟩:At))(hTa: ∀a∈T,a.at_≤ta)(hn:T.length<10000):HQ 419 [pV b,.agg #[iV ta,iV x,iV y,uV z,iV wy,iV an]] [Lg b T] (iV 0) [Lg b (T++ [(⟨ta,(x,y,z),wy,an⟩:At)])]:=by
 refine AC func419 ntmps419 fun g w0 R h0=>g0<|nP 50 [iV ta,iV x,iV y,uV z,iV wy,iV an] h0 (fun P _ av=> ?_)
 have aw:=av.a.t3
 refine g0<|AF call418 (GI b T) aw fun _ ax=> ?_
 obtain⟨A,B,e,cd,ay⟩:=Hu ax
 refine g0<|AF call42 (Hw b (.slice A T.length B) e) ay fun _ Q=>go [rd 6 0 3 0 6 Q]<|AP call304 (by have h_:=fI ta x y z wy an om om;rw[show Hs (⟨ta,(x,y,z),wy,an⟩:At)=0 from if_pos hat] at h_;exact h_) Q fun _ az=> ?_
 refine g0<|dw (AE [0,1,2,3,4,5,6,7,8,9,10,11,12,13,14,15,16] Tr.nil) az fun _ f=>go [.s 8 1] ?_
 by_cases S:(T.length:Int)>0
 ·
  obtain⟨D,U⟩:=Av (j:=1) f rfl om
  obtain⟨kk30,ce⟩: ∃z:Nat,z=T.length-1:=⟨_,rfl⟩
  refine go [.v 8 1 (oT _ S),rd 8 4 3 0 1 f,rd 8 8 0 0 1 f,.v 8 10 (CD ((T.length:Int)-1)),.s 8 11]<|lw (.pointer (some ⟨D,kk30*6,none⟩)) (fun _=>Ft (Ot 47) (Ot 49) A D 0 ((T.length:Int)-1) T.length B underlying44 6 kk30 U (kk30*6)) ?_
  obtain⟨C,V⟩:=gX T (T.length-1) om
  have cf:=hTa C (List.mem_of_getElem? V)
  refine go [.r 8 13 D (kk30*6) [iV C.at_] ⟨CM 1 f rfl U BW 0 (iV C.at_) V (kk30*6),trivial⟩,.v 8 14 (oF (ta<C.at_)),.v 10 1 (oF ((T.length:Int)≥10000))]<|dw (AE [0,1,2,3,4,5] (Tr.an 6 (Tr.an 7 (AE [8,9] (Tr.an 10 Tr.nil))))) f fun _ E=>go [rd 2 4 0 0 1 E,rd 2 5 3 0 6 E]<|nG (fun q_=> .slice (some ⟨q_,0,none⟩) 1 1) 50 [iV ta,iV x,iV y,uV z,iV wy,iV an] E (fun W _ X=>⟨kd [rd 0 4 1 0 1 X],?_⟩)
  have Y:=X.b.t6
  refine AH ?_
  refine aA 15 6 (Ot 12) (Ot 14) (.agg #[iV 0,iV 0,iV 0,uV 0,iV 0,iV 0]) A T.length B 1 1 (⟨W,0,none⟩) 48 underlying44 Y (fl DM [(⟨ta,(x,y,z),wy,an⟩:At)]) rfl (Br Y rfl) (Aw BW _) (T.length+1) ?_
  intro l o cg ba
  have Z:sat g _ (Sl 50 6 l (T.length+1) o (fl DM (T++ [(⟨ta,(x,y,z),wy,an⟩:At)]))::_):=sJ ba
  obtain⟨ch,ci⟩:=BH Z
  refine⟨kd [],DE ?_⟩
  have bb:=Z.b.t6
  refine g0<|sG [(0,.slice l (T.length+1) o)] [.slice l (T.length+1) o,.map (some e)] bb fun _ bc=>⟨kd [],?_⟩
  refine g0<|dw (AE [0,1,2,3,4,5,6] (Tr.an 7 (Tr.an 8 (AE [9,11] (Tr.an 10 (Tr.an 12 Tr.nil)))))) bc fun _ F=>go [rd 3 3 0 1 1 F,rd 3 5 4 1 3 F]<|nG (fun q_=> .slice (some ⟨q_,0,none⟩) 1 1) 3 [iV (T.length:Int)] F (fun aa _ G=>⟨kd [rd 0 5 5 1 3 G,rd 0 3 1 1 1 G],?_⟩)
  obtain⟨E57,ab,i,ac,ad,R62,cj,bd,hB65,be⟩:=NS G.d.t7 (x,y,z)
  have ae:=be.a.t9
  obtain⟨ck,cl⟩:=BH ae
  have bf:=ae.a.t9
  refine AH ?_
  refine Ha (t:=115) (d:=27) (m:=Ot 21) (x:=Ot 23) (kv:=kv) (ve:=LI) (z0:=(none,0,0)) kr kr rfl underlying115 Wz kr (x,y,z) kr kr bf (ab,i,ac) (bd.imp id (fun h_=>⟨h_.1,Prod.ext h_.2.1 (Prod.ext h_.2.2.1 h_.2.2.2)⟩)) ?_
  intro cm _ bg
  refine⟨kd [],DE ?_⟩
  have af:=bg.a.t9
  refine g0 ?_
  refine AH ?_
  refine aA 28 1 (Ot 24) (Ot 26) (iV 0) ab i ac 1 1 (⟨aa,0,none⟩) 8 underlying134 af (fl eI [(T.length:Int)]) rfl (fun j u hj=>by rw[CZ];exact AL af 3 rfl (by rw[Nat.zero_add];exact hj)) (Aw Co _) (i+1) ?_
  intro H I cn bh
  have ag:sat g _ (Sl 3 1 H (i+1) I (fl eJ (ad++ [(T.length:Int)]))::_):=sJ bh
  obtain⟨co,cp⟩:=BH ag
  refine⟨kd [],DE ?_⟩
  have bi:=ag.a.t9
  refine AH ?_
  refine Dp (t:=115) (m:=Ot 21) (x:=Ot 29) (y:=Ot 28) (kv:=kv) (ve:=LI) kr kr (H,i+1,I) kr kr kr bi (Au E57 (x,y,z) (H,i+1,I)) (MN _ _ _ _) ?_
  intro bj bk
  have bl:sat g bj [Ml 3 e (T.length+1),Cl aa [iV (T.length:Int)] 3,Cl b [.slice l (T.length+1) o,.map (some e)] 117,Sl 50 6 l (T.length+1) o (fl DM (T++ [(⟨ta,(x,y,z),wy,an⟩:At)])),Cl W [iV ta,iV x,iV y,uV z,iV wy,iV an] 50,Cl P [iV ta,iV x,iV y,uV z,iV wy,iV an] 50,R]:=hB65 _ _ _ _ _ _ (ad++ [(T.length:Int)]) (T.length+1) om om bk
  refine⟨kd [],IK ?_⟩
  refine g0 ?_
  have bm:sat g _ (Lg b (T++ [(⟨ta,(x,y,z),wy,an⟩:At)])::_):=EP (by rw[List.length_append];exact hn) (by rw[List.length_append];rfl) bl.c.c.t7
  exact AD _ [] bm.d.a.t2
 refine go [.v 8 1 (oF _ S),.v 10 1 (oF ((T.length:Int)≥10000))]<|dw (AE [0,1,2,3,4,5] (Tr.an 6 (Tr.an 7 (AE [8,9] (Tr.an 10 Tr.nil))))) f fun _ J=>go [rd 2 4 0 0 1 J,rd 2 5 3 0 6 J]<|nG (fun q_=> .slice (some ⟨q_,0,none⟩) 1 1) 50 [iV ta,iV x,iV y,uV z,iV wy,iV an] J (fun ah _ ai=>⟨kd [rd 0 4 1 0 1 ai],?_⟩)
 have aj:=ai.b.t6
 refine AH ?_
 refine aA 15 6 (Ot 12) (Ot 14) (.agg #[iV 0,iV 0,iV 0,uV 0,iV 0,iV 0]) A T.length B 1 1 (⟨ah,0,none⟩) 48 underlying44 aj (fl DM [(⟨ta,(x,y,z),wy,an⟩:At)]) rfl (Br aj rfl) (Aw BW _) (T.length+1) ?_
 intro p q cq bn
 have ak:sat g _ (Sl 50 6 p (T.length+1) q (fl DM (T++ [(⟨ta,(x,y,z),wy,an⟩:At)]))::_):=sJ bn
 obtain⟨cr,cs⟩:=BH ak
 refine⟨kd [],DE ?_⟩
 have bo:=ak.b.t6
 refine g0<|sG [(0,.slice p (T.length+1) q)] [.slice p (T.length+1) q,.map (some e)] bo fun _ bp=>⟨kd [],?_⟩
 refine g0<|dw (AE [0,1,2,3,4,5,6] (Tr.an 7 (Tr.an 8 (AE [9,11] (Tr.an 10 (Tr.an 12 Tr.nil)))))) bp fun _ L=>go [rd 3 3 0 1 1 L,rd 3 5 4 1 3 L]<|nG (fun q_=> .slice (some ⟨q_,0,none⟩) 1 1) 3 [iV (T.length:Int)] L (fun al _ M=>⟨kd [rd 0 5 5 1 3 M,rd 0 3 1 1 1 M],?_⟩)
 obtain⟨E111,am,k,ao,ap,R116,ct,bq,hB119,br⟩:=NS M.d.t7 (x,y,z)
 have aq:=br.a.t9
 obtain⟨cu,cv⟩:=BH aq
 have bs:=aq.a.t9
 refine AH ?_
 refine Ha (t:=115) (d:=27) (m:=Ot 21) (x:=Ot 23) (kv:=kv) (ve:=LI) (z0:=(none,0,0)) kr kr rfl underlying115 Wz kr (x,y,z) kr kr bs (am,k,ao) (bq.imp id (fun h_=>⟨h_.1,Prod.ext h_.2.1 (Prod.ext h_.2.2.1 h_.2.2.2)⟩)) ?_
 intro cw _ bt
 refine⟨kd [],DE ?_⟩
 have ar:=bt.a.t9
 refine g0 ?_
 refine AH ?_
 refine aA 28 1 (Ot 24) (Ot 26) (iV 0) am k ao 1 1 (⟨al,0,none⟩) 8 underlying134 ar (fl eI [(T.length:Int)]) rfl (fun j u hj=>by rw[CZ];exact AL ar 3 rfl (by rw[Nat.zero_add];exact hj)) (Aw Co _) (k+1) ?_
 intro N O cx bu
 have au:sat g _ (Sl 3 1 N (k+1) O (fl eJ (ap++ [(T.length:Int)]))::_):=sJ bu
 obtain⟨cy,cz⟩:=BH au
 refine⟨kd [],DE ?_⟩
 have bv:=au.a.t9
 refine AH ?_
 refine Dp (t:=115) (m:=Ot 21) (x:=Ot 29) (y:=Ot 28) (kv:=kv) (ve:=LI) kr kr (N,k+1,O) kr kr kr bv (Au E111 (x,y,z) (N,k+1,O)) (MN _ _ _ _) ?_
 intro bw bx
 have bz:sat g bw [Ml 3 e (T.length+1),Cl al [iV (T.length:Int)] 3,Cl b [.slice p (T.length+1) q,.map (some e)] 117,Sl 50 6 p (T.length+1) q (fl DM (T++ [(⟨ta,(x,y,z),wy,an⟩:At)])),Cl ah [iV ta,iV x,iV y,uV z,iV wy,iV an] 50,Cl P [iV ta,iV x,iV y,uV z,iV wy,iV an] 50,R]:=hB119 _ _ _ _ _ _ (ap++ [(T.length:Int)]) (T.length+1) om om bx
 refine⟨kd [],IK ?_⟩
 refine g0 ?_
 have ca:sat g _ (Lg b (T++ [(⟨ta,(x,y,z),wy,an⟩:At)])::_):=EP (by rw[List.length_append];exact hn) (by rw[List.length_append];rfl) bz.c.c.t7
 exact AD _ [] ca.d.a.t2
theorem SP(c:Nat)(X:AB):HT prog 43 [.slice none 0 c] [X] (fun v K=> ∃p c,v= .slice p 0 c∧K= [Sl 50 6 p 0 c (fl DM []),X]):=by
 refine AC func43 ntmps43 fun g w0 R h0=>g0 ?_
 have a:sat g _ (Sl 50 6 none 0 0 (fl DM [])::_):=CP 50 6 h0
 exact en _ [] ⟨_,_,rfl,⟨none,0,rfl,rfl⟩,a⟩
theorem QC(n c:Nat)(L:List At)(X:AB)(hX:Gv X none n (fl DM L))(hL:L.length=n):HT prog 43 [.slice none n c] [X] (fun v K=> ∃p c,v=.slice p n c∧K= [Sl 50 6 p n c (fl DM L),X]):=by
 have a:n=0∨0<n:=by omega
 rcases a with a|a
 · have d:L= []:=List.eq_nil_of_length_eq_zero om
   subst d
   subst a
   exact SP c X
 · intro g w F hs
   obtain⟨b,off,h1⟩:=F4 (j:=0) hs rfl hX a
   cases h1
theorem QD(a:Addr)(p:Option Addr)(hp:p=some a)(n c:Nat)(L:List At)(X:AB)(hX:Gv X p n (fl DM L))(hL:L.length=n)(hn:n≤1099511627776):HT prog 43 [.slice p n c] [X] (fun v K=> ∃p c,v= .slice p n c∧K= [Sl 50 6 p n c (fl DM L),X]):=by
 refine AC func43 ntmps43 fun g w0 R h0=>go [.s 1 1]<|AS (bF) (Ey (x:=Ot 3) (y:=(Operand.const (.slice none 0 0))) (m:=n) (c:=c) kr underlying44 kr hp kr _)<|g0<|nG (fun q_=> .slice (some ⟨q_,0,none⟩) 0 0) 50 [] h0 (fun b l i=>⟨kd [],?_⟩)
 have j:sat g _ (Sl 50 6 (some ⟨b,0,none⟩) 0 0 (fl DM [])::_):=HO i rfl om
 refine g0 ?_
 refine AH ?_
 refine aG 7 6 (Ot 5) (Ot 6) (.agg #[iV 0,iV 0,iV 0,uV 0,iV 0,iV 0]) (some ⟨b,0,none⟩) p 0 0 n c 48 underlying44 j 1 rfl (fl DM L) hX (by rw[Dg BW,hL]) (Aw BW _) n ?_
 intro d e o k
 have f:sat g _ (Sl 50 6 d n e (fl DM L)::_):=sI k
 obtain⟨q,t⟩:=BH f
 refine B1<|g0 ?_
 exact en _ [] ⟨_,_,rfl,⟨d,e,rfl,rfl⟩,f⟩
theorem Mh(p:Option Addr)(n c:Nat)(L:List At)(X:AB)(hX:Gv X p n (fl DM L))(hL:L.length=n)(hn:n≤1099511627776):HT prog 43 [.slice p n c] [X] (fun v K=> ∃p c,v=.slice p n c∧K= [Sl 50 6 p n c (fl DM L),X]):=by
 cases p with
 |none=>exact QC n c L X hX hL
 |some a=>exact QD a _ rfl n c L X hX hL hn
theorem Yy(b:Nat)(T:List At):HT prog 21 [pV b] [Lg b T] (fun v K=> ∃p c,v= .slice p T.length c∧K= [Sl 50 6 p T.length c (fl DM T),Lg b T]):=by
 refine AC func21 ntmps21 fun g w0 R h0=> ?_
 obtain⟨d,e,i,j,k⟩:=Hu h0
 refine g0<|AF call42 (Hw b (.slice d T.length e) i) k fun _ f=> ?_
 have l:=f.a.t4
 refine go [rd 3 3 0 0 1 f]<|cP call43 (Mh d T.length e T (Sl 50 6 d T.length e (fl DM T)) (F5 _ _ _) rfl om) l ?_
 rintro v K u (⟨m,o,rfl,rfl⟩) q
 have s:=CW q
 refine g0 ?_
 have t:sat g _ (Lg b T::_):=EP j rfl s.c.b.c.t5
 exact en _ [] ⟨_,_,rfl,⟨m,o,rfl,rfl⟩,t.a.t3⟩
theorem Mi(b:Nat)(T:List At):HT prog 41 [pV b] [Lg b T] (fun v K=> ∃I:Nat,v=pV I∧K= [Lg b T,Lg I T]):=by
 refine AC func41 ntmps41 fun g w0 R h0=> ?_
 obtain⟨l,o,p,J,W⟩:=Hu h0
 refine g0<|AF call42 (Hw b (.slice l T.length o) p) W fun _ X=>g0<|cP call73 QB X ?_
 rintro v K _ (⟨z,rfl,rfl⟩) Y
 have L:=B3 Y
 have Z:=L.b.t5
 refine go [rd 4 4 1 0 1 L]<|cP call43 (Mh l T.length o T (Sl 50 6 l T.length o (fl DM T)) (F5 _ _ _) rfl om) Z ?_
 rintro v K _ (⟨s,u,rfl,rfl⟩) aa
 obtain⟨ab,ac,A,bg,ad⟩:=Hu ((CW aa).b.t6)
 refine g0<|sP [(0,.slice s T.length u)] [.slice s T.length u,.map (some A)] ad fun _ M=> ?_
 obtain⟨R_,hR_,ae⟩:=Th M.f.t8
 refine go [rd 5 3 5 1 1 M] ?_
 refine AH ?_
 refine F8 (t:=115) (d:=22) (x:=Ot 21) kr kr rfl underlying115 kr ae ?_
 intro B af ag
 refine B1<|g0 ?_
 have ah:sat g af [Ml 3 A T.length,It kv LI p B (Gy R_) (Gy R_) none,JA 3 R_,Cl z [.slice s T.length u,.map (some A)] 117,Sl 50 6 ab ([].length) ac (fl DM []),Sl 50 6 s T.length u (fl DM T),Sl 50 6 l T.length o (fl DM T),Cl b [.slice l T.length o,.map (some p)] 117,R]:=cZ (Nat.zero_le _) ag.d.t9
 refine Jc (fun mz_ a w=> ∃S:List (Ky×Sv),∃cur:Option (Ky×Sv),∃lr:Fr,mz_=S.length∧(∀q∈S,q∈Gy R_)∧a=mk 36 (([(3,pV z),(22,pV B)]:Fr)++lr)∧sat g w [It kv LI p B (Gy R_) S cur,JA 3 R_,Cl b [.slice l T.length o,.map (some p)] 117,Sl 50 6 l T.length o (fl DM T),Cl z [.slice s T.length u,.map (some A)] 117,Sl 50 6 s T.length u (fl DM T),Ml 3 A T.length,R]) ((Gy R_).length) ⟨(Gy R_),none,_,rfl,(fun _ hq_=>hq_),(Ck [.k 3 (pV z),.k 22 (pV B)]),ah.h.a.f.e.x.h.x.x.t9.t8⟩ ?_
 rintro bh bi bj ⟨S,cur,bk,rfl,hsub,rfl,ai⟩
 refine ga<|g0 ?_
 refine AH ?_
 refine Jf (d:=23) (x:=Ot 22) kr kr rfl kr ai ?_ ?_
 ·
  intro hS49 bl aj
  refine B1<|g0<|up<|g0 ?_
  have ak:sat g _ (Ml 3 p T.length::_):=HZ hR_ (KB aj)
  have al:sat g _ (Lg b T::_):=EP J rfl ak.b.b.t7
  have am:sat g _ (Lg z T::_):=EP J rfl al.c.c.c.t5
  exact en _ [] ⟨_,_,rfl,⟨z,rfl,rfl⟩,am.a.t3⟩
 intro C j N _ O
 have bm:=Vn N
 refine B1<|g0 ?_
 refine AH ?_
 refine AX (d:=25) (.tuple #[.agg #[iV j.1.1,iV j.1.2.1,uV j.1.2.2],.slice j.2.1 j.2.2.1 j.2.2.2]) kr rfl (E9 (x:=Ot 22) kr kr O (.tuple #[.agg #[iV j.1.1,iV j.1.2.1,uV j.1.2.2],.slice j.2.1 j.2.2.1 j.2.2.2]) rfl) ?_
 refine B1<|g0<|nP 48 [iV 0,iV 0,uV 0] O (fun P _ ao=> ?_)
 refine sA [iV j.1.1,iV j.1.2.1,uV j.1.2.2] ao fun _ ap=>g0<|dw (AE [0,1,2,3,4,5] (Tr.an 6 (Tr.an 7 Tr.nil))) ap fun _ E=> ?_
 have Q:=hsub j (List.mem_of_getElem? N);have hm71b:=mJ hR_ Q
 obtain⟨D,R74,aq,U⟩:=cY E.b.t9 Q
 have ar:=Ca tM dc U
 refine go [rd 8 3 5 1 1 E,rd 8 4 0 0 3 E]<|cG call109 (P0 j.2.1 j.2.2.1 j.2.2.2 D (Sl 3 1 j.2.1 j.2.2.1 j.2.2.2 (fl eJ D)) (F5 _ _ _) ar om) U ?_
 rintro v K au (⟨F,G,rfl,rfl⟩) av
 have H:sat g au [JA 3 R_,Sl 3 1 F j.2.2.1 G (fl eJ D),Cl P [iV j.1.1,iV j.1.2.1,uV j.1.2.2] 48,It kv LI p B (Gy R_) (S.eraseIdx C) (some j),Cl b [.slice l T.length o,.map (some p)] 117,Sl 50 6 l T.length o (fl DM T),Cl z [.slice s T.length u,.map (some A)] 117,Sl 50 6 s T.length u (fl DM T),Ml 3 A T.length,R]:=aq _ _ _ ((CW av).b.b.t11)
 refine⟨kd [rd 0 4 2 0 3 H,rd 0 3 6 1 1 H],?_⟩
 obtain⟨E86,aw,ax,ay,az,R91,bn,bo,hB94,ba⟩:=NS H.h.t10 (j.1.1,j.1.2.1,j.1.2.2)
 have V:=ba.a.t12
 obtain⟨bp,bq⟩:=BH V
 have bb:=V.a.t12
 refine AH ?_
 refine BL (t:=115) (m:=Ot 31) (x:=Ot 32) (y:=Ot 34) (kv:=kv) (ve:=LI) kr kr underlying115 Wz (j.1.1,j.1.2.1,j.1.2.2) (F,j.2.2.1,G) kr kr kr bb (Au E86 (j.1.1,j.1.2.1,j.1.2.2) (F,j.2.2.1,G)) rfl ?_
 intro bc bd
 have be:sat g bc [Ml 3 A T.length,Sl 3 1 aw ax ay (fl eJ az),JA 3 R_,Cl P [iV j.1.1,iV j.1.2.1,uV j.1.2.2] 48,It kv LI p B (Gy R_) (S.eraseIdx C) (some j),Cl b [.slice l T.length o,.map (some p)] 117,Sl 50 6 l T.length o (fl DM T),Cl z [.slice s T.length u,.map (some A)] 117,Sl 50 6 s T.length u (fl DM T),R]:=hB94 _ _ _ _ _ _ D T.length om om bd.b.d.b.t12
 refine⟨kd [],IK ?_⟩
 refine g0 ?_
 refine ET ?_
 have bf:=be.i.a.i.i.i.i.x.i.t10.t8
 change ∃n',n'<_∧_
 refine⟨(S.eraseIdx C).length,by omega,(S.eraseIdx C),(some j),_,rfl,(fun q_ hq_=>hsub q_ (List.mem_of_mem_eraseIdx hq_)),(Ck [.k 3 (pV z),.k 22 (pV B)]),bf⟩
theorem oO(p:Option Addr)(n c:Nat)(L:List Ky)(X:AB)(hX:Gv X p n (fl eO L))(hL:L.length=n)(hn:n≤1000000)(x y z:Int):HT prog 432 [.slice p n c,.agg #[iV x,iV y,uV z]] [X] (fun v K=> ∃r:Int,v=iV r∧ -1≤r∧(0≤r↔(x,y,z)∈L)∧K= [X]):=by
 refine AC func432 ntmps432 fun g w0 R h0=>g0<|nP 48 [iV x,iV y,uV z] h0 (fun m _ B=> ?_)
 refine g0 ?_
 refine Jc (fun mz_ a w=> ∃i:Nat,∃lr:Fr,mz_=n-i∧(i≤n)∧(∀b∈L.take i,b≠(x,y,z))∧a=mk 19 (([(0,.slice p n c),(3,pV m),(7,iV n),(8,iV i)]:Fr)++lr)∧sat g w [Cl m [iV x,iV y,uV z] 48,X,R]) (n-0) ⟨0,_,rfl,(Nat.zero_le _),(fun _ hb_=>nomatch hb_),(Ck [.k 0 (.slice p n c),.k 3 (pV m),.k 7 (iV n),.o 8 (oJ .i64 0 (0:Int))]),B⟩ ?_
 rintro C D E ⟨i,F,rfl,hi,hno,rfl,u⟩
 refine ga<|go [.s 2 0] ?_
 by_cases A:(i:Int)<(n:Int)
 ·
  refine go [.v 2 0 (oT _ A)]<|dw (AE [0,1,2,3,4,5] Tr.nil) u fun _ e=> ?_
  obtain⟨t,f,q⟩:=F4 (j:=1) e rfl hX om
  refine go [rd 4 0 0 0 3 e,.s 4 3]<|lw (.pointer (some ⟨t,f+i*3,none⟩)) (fun _=>Ft (Ot 12) (Ot 13) p t f (i:Int) n c underlying514 3 i q (f+i*3)) ?_
  obtain⟨d,l⟩: ∃x,L[i]? =some x:=⟨_,List.getElem?_eq_getElem (by rw[hL];omega)⟩
  refine go [.r 4 4 t (f+i*3) [iV d.1,iV d.2.1,uV d.2.2] ⟨Cn (j:=1) e rfl hX q (Cq B6 (j:=0) (v:=iV d.1) l rfl) (f+i*3) om,Cn (j:=1) e rfl hX q (Cq B6 (j:=1) (v:=iV d.2.1) l rfl) (f+i*3+1) om,Cn (j:=1) e rfl hX q (Cq B6 (j:=2) (v:=uV d.2.2) l rfl) (f+i*3+2) om,trivial⟩,.s 4 5] ?_
  by_cases G:x=d.1
  ·
   by_cases H:y=d.2.1
   ·
    by_cases I:z=d.2.2
    ·
     refine lw (bT) (fun _=>JE (x:=Ot 11) (y:=Ot 15) x y z d.1 d.2.1 d.2.2 kr kr kr ⟨om,om,om⟩ _)<|g0<|up<|g0 ?_
     exact en (iV i) [] ⟨_,_,rfl,⟨(i:Int),rfl,om,⟨fun _=>by have h_:=List.mem_of_getElem? l;rwa [uD (a:=d) (x:=x) (y:=y) (z:=z) om] at h_,fun _=>om⟩,rfl⟩,e.a.t3.b.a.t2⟩
    refine lw (bF) (fun _=>DL (x:=Ot 11) (y:=Ot 15) x y z d.1 d.2.1 d.2.2 kr kr kr om _)<|go [.v 6 0 (CD ((i:Int)+1))] ?_
    exact kB (n-(i+1)) ⟨(i+1),_,rfl,om,(Yr hno l (Yq om)),(Ck [.k 0 (.slice p n c),.k 3 (pV m),.k 7 (iV n),.o 8 (oJ .i64 ((i:Int)+1) (((i+1):Nat):Int))]),e⟩
   refine lw (bF) (fun _=>DL (x:=Ot 11) (y:=Ot 15) x y z d.1 d.2.1 d.2.2 kr kr kr om _)<|go [.v 6 0 (CD ((i:Int)+1))] ?_
   exact kB (n-(i+1)) ⟨(i+1),_,rfl,om,(Yr hno l (Yq om)),(Ck [.k 0 (.slice p n c),.k 3 (pV m),.k 7 (iV n),.o 8 (oJ .i64 ((i:Int)+1) (((i+1):Nat):Int))]),e⟩
  refine lw (bF) (fun _=>DL (x:=Ot 11) (y:=Ot 15) x y z d.1 d.2.1 d.2.2 kr kr kr om _)<|go [.v 6 0 (CD ((i:Int)+1))] ?_
  exact kB (n-(i+1)) ⟨(i+1),_,rfl,om,(Yr hno l (Yq om)),(Ck [.k 0 (.slice p n c),.k 3 (pV m),.k 7 (iV n),.o 8 (oJ .i64 ((i:Int)+1) (((i+1):Nat):Int))]),e⟩
 refine go [.v 2 0 (oF _ A)]<|up<|g0 ?_
 exact en (iV (-1)) [] ⟨_,_,rfl,⟨-1,rfl,(by decide:(-1:Int)≤ -1),⟨fun h_=>absurd h_ dc,fun h_=>absurd h_ (oG hno om)⟩,rfl⟩,u.a.t3.b.a.t2⟩
theorem SQ(p:Option Addr)(n c:Nat)(L:List Ky)(X:AB)(hX:Gv X p n (fl eO L))(hL:L.length=n)(hn:n≤1000000)(x y z:Int):HQ 403 [.slice p n c,.agg #[iV x,iV y,uV z]] [X] (.bool (decide ((x,y,z)∈L))) [X]:=by
 refine AC func403 ntmps403 fun g w0 R h0=>g0<|nP 48 [iV x,iV y,uV z] h0 (fun _ _ b=> ?_)
 have f:=b.a.t3
 refine go [rd 1 1 0 0 3 b]<|cP call432 (oO p n c L X hX hL hn x y z) f ?_
 rintro v K _ (⟨i,rfl,k,h14b,rfl⟩) j
 have d:=B3 j
 by_cases e:i≥0
 ·
  refine go [.v 1 3 (oT _ e)] ?_
  exact en (bT) [] ⟨_,_,rfl,⟨by rw[decide_eq_true (h14b.1 om)],rfl⟩,d.B.t2⟩
 refine go [.v 1 3 (oF _ e)] ?_
 exact en (bF) [] ⟨_,_,rfl,⟨by rw[decide_eq_false (fun h_=>absurd (h14b.2 h_) om)],rfl⟩,d.B.t2⟩
theorem fJ{X:Xs}{k y z:Int}(hy:0≤y):(k,y,z)∈C2 k X↔(As X)[y.toNat]? =some (1,z):=by
 unfold C2
 rw[List.mem_map]
 constructor
 · rintro⟨⟨j,g⟩,h1,a⟩
   simp only[Prod.mk.injEq] at a
   obtain⟨_,rfl,rfl⟩:=a
   obtain⟨i,hi⟩:=List.getElem?_of_mem h1
   have b:=(Eg hi).2
   rw[Nat.sub_zero] at b
   rw[Int.toNat_natCast]
   exact b
 · intro h
   have h4:=KD (q:=1) h rfl
   refine⟨(y.toNat,z),List.mem_of_getElem? h4,?_⟩
   simp only[Prod.mk.injEq,true_and,and_true]
   omega
theorem Nr{S:Wst}{k y z:Int}(h:CT (k,y,z)):decide ((k,y,z)∈C2 k (S.tab k))=decide (KR S (k,y,z)):=by
 have b:=fJ (X:=S.tab k) (k:=k) (y:=y) (z:=z) h.2.2.1
 by_cases a:(k,y,z)∈C2 k (S.tab k)
 · rw[decide_eq_true a,decide_eq_true (show KR S (k,y,z) from ⟨h,b.1 a⟩)]
 · rw[decide_eq_false a,decide_eq_false (show ¬KR S (k,y,z) from fun h3=>a (b.2 h3.2))]
abbrev uG(b f p d s l:Nat)(S:Wst):List AB:= [Cl b [Value.nilIface,Value.iface 179 (Value.pointer (some ⟨f,0,none⟩)),Value.iface 182 (Value.pointer (some ⟨p,0,none⟩)),Value.iface 185 (Value.pointer (some ⟨d,0,none⟩)),Value.pointer (some ⟨s,0,none⟩),Value.pointer (some ⟨l,0,none⟩),Value.int IntKind.i64 S.now] 113,Fd f 64 S.F,Pl p S.B,Dk d S.D,Sr 288 s S.q,Lg l S.T]
theorem BA(b l:Nat)(a c d e f i:Value):HQ 40 [pV b] [Cl b [a,c,d,e,f,pV l,i] 113] (bT) [Cl b [a,c,d,e,f,pV l,i] 113]:=by
 refine AC func40 ntmps40 fun g w0 R j=>go [rd 1 6 0 5 1 j] ?_
 exact AD _ [] j
theorem fK(gn:Int)(hgn:1≤gn∧gn≤4294967295):HT prog 32 [uV gn] [] (fun v K=> ∃b:Nat,v= .tuple #[pV b,iV 0]∧K= [Wd b (Fz gn)]):=by
 refine AC func32 ntmps32 fun g w0 R h0=>g0<|AP call68 (FB gn om om) h0 fun _ o=>g0<|cP call69 (by have h_:=eN 64 gn dc om;exact h_) o ?_
 rintro v K _ (⟨f,rfl,rfl⟩) p
 have q:=B3 p
 refine g0<|cP call70 (fB gn om) q ?_
 rintro v K _ (⟨j,rfl,rfl⟩) u
 have y:=B3 u
 refine g0<|cP call71 (fD gn om) y ?_
 rintro v K _ (⟨k,rfl,rfl⟩) A
 have B:=B3 A
 refine g0<|cP call72 nU B ?_
 rintro v K _ (⟨l,rfl,rfl⟩) C
 refine cP call73 QB (B3 C) ?_
 rintro v K _ (⟨m,rfl,rfl⟩) D
 have E:=B3 D
 refine g0<|nP 113 [Value.nilIface,Value.nilIface,Value.nilIface,Value.nilIface,pV l,pV m,iV 0] E (fun a _ F=> ?_)
 refine g0<|dw (AE [0,1,2,3,4,5,6,7,8,9,10,11,13,14,17,18] (Tr.an 12 (Tr.fl 15 (Tr.an 16 (Tr.fl 19 (Tr.an 20 Tr.nil)))))) F fun _ G=>go [.s 13 4]<|lw (.iface 179 (pV f)) (fun _=>BS (t:=179) (x:=Ot 43) kr underlying179 rfl (pV f) kr _)<|go [.s 13 6]<|lw (.iface 182 (pV j)) (fun _=>BS (t:=182) (x:=Ot 45) kr underlying182 rfl (pV j) kr _)<|go [.s 13 8]<|lw (.iface 185 (pV k)) (fun _=>BS (t:=185) (x:=Ot 47) kr underlying185 rfl (pV k) kr _)<|go [.s 13 11]<|lw (.pointer (some ⟨a,1,none⟩)) (fun _=>AA (x:=Ot 50) (i:=(Operand.const (iV 1))) (b:=a) (off:=0) (z:=1) kr underlying110 1 kr 1 kr kr om om 1 om _)<|g0<|sG [(1,.iface 179 (pV f))] [Value.nilIface,.iface 179 (pV f),Value.nilIface,Value.nilIface,pV l,pV m,iV 0] G fun _ H=>⟨kd [],?_⟩
 refine lw (.pointer (some ⟨a,2,none⟩)) (fun _=>AA (x:=Ot 53) (i:=(Operand.const (iV 2))) (b:=a) (off:=0) (z:=2) kr underlying110 1 kr 2 kr kr om om 2 om _)<|sG [(2,.iface 182 (pV j))] [Value.nilIface,.iface 179 (pV f),.iface 182 (pV j),Value.nilIface,pV l,pV m,iV 0] H fun _ I=>⟨kd [],?_⟩
 refine lw (.pointer (some ⟨a,3,none⟩)) (fun _=>AA (x:=Ot 56) (i:=(Operand.const (iV 3))) (b:=a) (off:=0) (z:=3) kr underlying110 1 kr 3 kr kr om om 3 om _)<|sG [(3,.iface 185 (pV k))] [Value.nilIface,.iface 179 (pV f),.iface 182 (pV j),.iface 185 (pV k),pV l,pV m,iV 0] I fun M J=>⟨kd [],?_⟩
 refine g0 ?_
 have L:sat g _ (Wd a (Fz gn)::_):=AY (eX hgn) J.b.c.d.e.d.t7
 exact en _ [] ⟨_,_,rfl,⟨a,rfl,rfl⟩,L⟩
theorem oP(b f p d s l:Nat)(S:Wst)(hW:WOk S)(x y z:Int)(C:0≤z)(E:z≤4294967295)(hg: ¬(1≤x∧x≤3∧0≤y∧y≤63∧1≤z)):HQ 358 [pV b,.agg #[iV x,iV y,uV z]] [Cl b [Value.nilIface,.iface 179 (pV f),.iface 182 (pV p),.iface 185 (pV d),pV s,pV l,iV S.now] 113,Fd f 64 S.F,Pl p S.B,Dk d S.D,Sr 288 s S.q,Lg l S.T] (bF) [Cl b [Value.nilIface,.iface 179 (pV f),.iface 182 (pV p),.iface 185 (pV d),pV s,pV l,iV S.now] 113,Fd f 64 S.F,Pl p S.B,Dk d S.D,Sr 288 s S.q,Lg l S.T]:=by
 refine AC func358 ntmps358 fun g w0 R h0=>g0<|nP 48 [iV x,iV y,uV z] h0 (fun _ _ i=> ?_)
 refine g0<|dw (Tr.fl 0 (Tr.an 1 (AE [2,3] (Tr.an 4 (AE [5,6,7,8,9,10,11,12,13,14,16] (Tr.an 15 (Tr.an 17 (AE [18,19] Tr.nil)))))))) i fun _ j=> ?_
 have k:=j.a.t8
 refine g0<|BZ call40 (BA b l Value.nilIface (.iface 179 (pV f)) (.iface 182 (pV p)) (.iface 185 (pV d)) (pV s) (iV S.now)) k fun _ c=>⟨kd [],?_⟩
 refine go [rd 1 3 1 0 3 c] ?_
 by_cases G:1≤x
 ·
  by_cases H:x≤3
  ·
   by_cases I:0≤y
   ·
    by_cases J:y≤63
    ·
     refine CJ call273 (Ao x y z om om om) c fun _ m=>⟨kd [],?_⟩
     refine g0<|bR []<|bR []<|g0 ?_
     exact AD _ [] m.f.f.f.f.f.e.t8.x.f.f.f.f.f.f.t7
    refine CJ call273 (Ao x y z om om om) c fun _ o=>⟨kd [],?_⟩
    refine g0<|bR []<|bR []<|g0 ?_
    exact AD _ [] o.f.f.f.f.f.e.t8.x.f.f.f.f.f.f.t7
   refine CJ call273 (Ao x y z om om om) c fun _ t=>⟨kd [],?_⟩
   refine g0<|bR []<|bR []<|g0 ?_
   exact AD _ [] t.f.f.f.f.f.e.t8.x.f.f.f.f.f.f.t7
  refine CJ call273 (Ao x y z om om om) c fun _ u=>⟨kd [],?_⟩
  refine g0<|bR []<|bR []<|g0 ?_
  exact AD _ [] u.f.f.f.f.f.e.t8.x.f.f.f.f.f.f.t7
 refine CJ call273 (Ao x y z om om om) c fun _ A=>⟨kd [],?_⟩
 refine g0<|bR []<|bR []<|g0 ?_
 exact AD _ [] A.f.f.f.f.f.e.t8.x.f.f.f.f.f.f.t7
theorem uH(b f p d s l:Nat)(S:Wst)(hW:WOk S)(y z:Int)(hz0:0≤z)(hz1:z≤4294967295)(hg:CT (1,y,z))(hy0:0≤y)(hy1:y≤63)(hz:1≤z):HQ 358 [pV b,.agg #[iV 1,iV y,uV z]] [Cl b [Value.nilIface,.iface 179 (pV f),.iface 182 (pV p),.iface 185 (pV d),pV s,pV l,iV S.now] 113,Fd f 64 S.F,Pl p S.B,Dk d S.D,Sr 288 s S.q,Lg l S.T] (.bool (decide (KR S (1,y,z)))) [Cl b [Value.nilIface,.iface 179 (pV f),.iface 182 (pV p),.iface 185 (pV d),pV s,pV l,iV S.now] 113,Fd f 64 S.F,Pl p S.B,Dk d S.D,Sr 288 s S.q,Lg l S.T]:=by
 refine AC func358 ntmps358 fun g w0 R h0=>g0<|nP 48 [iV 1,iV y,uV z] h0 (fun _ _ h12=> ?_)
 refine g0<|dw (Tr.fl 0 (Tr.an 1 (AE [2,3] (Tr.an 4 (AE [5,6,7,8,9,10,11,12,13,14,16] (Tr.an 15 (Tr.an 17 (AE [18,19] Tr.nil)))))))) h12 fun _ h14=> ?_
 have h15:=h14.a.t8
 refine g0<|BZ call40 (BA b l Value.nilIface (.iface 179 (pV f)) (.iface 182 (pV p)) (.iface 185 (pV d)) (pV s) (iV S.now)) h15 fun _ h17=>⟨kd [],?_⟩
 refine go [rd 1 3 1 0 3 h17]<|CJ call273 (Bg 1 y z om om om) h17 fun _ h19=>⟨kd [],?_⟩
 refine go [rd 1 10 1 0 1 h19,.s 1 13]<|lw (.pointer (some ⟨b,1,none⟩)) (fun _=>AA (x:=Ot 17) (i:=Ot 15) (b:=b) (off:=0) (z:=1) kr underlying110 1 kr 1 kr kr om om 1 om _) ?_
 have h22:=h19.b.t8
 refine go [rd 1 14 0 1 1 h19,rd 1 16 1 0 3 h19] ?_
 refine iG 179 (pV f) "All" [] 543 (by have h_:=eP f 64 S.F;exact h_) h22 ?_
 rintro v K _ (⟨p20,c21,rfl,rfl⟩) h24
 have h25:=CW h24
 have hl26:((AJ 1 (As S.F) 0).length)≤64:=by have h_:=DU 1 (As S.F) 0;rw[E1,hW.fl] at h_;exact h_
 refine⟨kd [rd 0 16 3 0 3 h25],?_⟩
 refine BZ call403 (SQ p20 ((AJ 1 (As S.F) 0).length) c21 (C2 1 S.F) (Sl 48 3 p20 ((AJ 1 (As S.F) 0).length) c21 (fl eO (C2 1 S.F))) (F5 _ _ _) (GH _ _) om 1 y z) h25.a.t9 fun _ h29=>⟨kd [],?_⟩
 refine g0 ?_
 exact en (.bool (decide ((1,y,z)∈(C2 1 S.F)))) [] ⟨_,_,rfl,⟨by rw[←Nr hg];rfl,rfl⟩,(yE (O5 (O5 (O5 (O5 (O5 (O5 (yC h29.x.x.x.x.e.f.t9))))))))⟩
theorem uI(b f p d s l:Nat)(S:Wst)(hW:WOk S)(y z:Int)(hz0:0≤z)(hz1:z≤4294967295)(hg:CT (2,y,z))(hy0:0≤y)(hy1:y≤63)(hz:1≤z):HQ 358 [pV b,.agg #[iV 2,iV y,uV z]] [Cl b [Value.nilIface,.iface 179 (pV f),.iface 182 (pV p),.iface 185 (pV d),pV s,pV l,iV S.now] 113,Fd f 64 S.F,Pl p S.B,Dk d S.D,Sr 288 s S.q,Lg l S.T] (.bool (decide (KR S (2,y,z)))) [Cl b [Value.nilIface,.iface 179 (pV f),.iface 182 (pV p),.iface 185 (pV d),pV s,pV l,iV S.now] 113,Fd f 64 S.F,Pl p S.B,Dk d S.D,Sr 288 s S.q,Lg l S.T]:=by
 refine AC func358 ntmps358 fun g w0 R h0=>g0<|nP 48 [iV 2,iV y,uV z] h0 (fun _ _ h12=> ?_)
 refine g0<|dw (Tr.fl 0 (Tr.an 1 (AE [2,3] (Tr.an 4 (AE [5,6,7,8,9,10,11,12,13,14,16] (Tr.an 15 (Tr.an 17 (AE [18,19] Tr.nil)))))))) h12 fun _ h14=> ?_
 have h15:=h14.a.t8
 refine g0<|BZ call40 (BA b l Value.nilIface (.iface 179 (pV f)) (.iface 182 (pV p)) (.iface 185 (pV d)) (pV s) (iV S.now)) h15 fun _ h17=>⟨kd [],?_⟩
 refine go [rd 1 3 1 0 3 h17]<|CJ call273 (Bg 2 y z om om om) h17 fun _ h19=>⟨kd [],?_⟩
 refine go [rd 1 10 1 0 1 h19,.s 1 13]<|lw (.pointer (some ⟨b,2,none⟩)) (fun _=>AA (x:=Ot 17) (i:=Ot 15) (b:=b) (off:=0) (z:=2) kr underlying110 1 kr 2 kr kr om om 2 om _) ?_
 have h22:=h19.c.t8
 refine go [rd 1 14 0 2 1 h19,rd 1 16 1 0 3 h19] ?_
 refine iG 182 (pV p) "All" [] 545 (fC p S.B) h22 ?_
 rintro v K _ (⟨p20,c21,rfl,rfl⟩) h24
 have h25:=CW h24
 have hl26:((AJ 1 (As S.B) 0).length)≤64:=by have h_:=DU 1 (As S.B) 0;rw[E1,hW.bl] at h_;exact h_
 refine⟨kd [rd 0 16 3 0 3 h25],?_⟩
 refine BZ call403 (SQ p20 ((AJ 1 (As S.B) 0).length) c21 (C2 2 S.B) (Sl 48 3 p20 ((AJ 1 (As S.B) 0).length) c21 (fl eO (C2 2 S.B))) (F5 _ _ _) (GH _ _) om 2 y z) h25.a.t9 fun _ h29=>⟨kd [],?_⟩
 refine g0 ?_
 exact en (.bool (decide ((2,y,z)∈(C2 2 S.B)))) [] ⟨_,_,rfl,⟨by rw[←Nr hg];rfl,rfl⟩,(yE (O5 (O5 (O5 (O5 (O5 (O5 (yC h29.x.x.x.d.x.f.t9))))))))⟩
theorem uJ(b f p d s l:Nat)(S:Wst)(hW:WOk S)(y z:Int)(hz0:0≤z)(hz1:z≤4294967295)(hg:CT (3,y,z))(hy0:0≤y)(hy1:y≤63)(hz:1≤z):HQ 358 [pV b,.agg #[iV 3,iV y,uV z]] [Cl b [Value.nilIface,.iface 179 (pV f),.iface 182 (pV p),.iface 185 (pV d),pV s,pV l,iV S.now] 113,Fd f 64 S.F,Pl p S.B,Dk d S.D,Sr 288 s S.q,Lg l S.T] (.bool (decide (KR S (3,y,z)))) [Cl b [Value.nilIface,.iface 179 (pV f),.iface 182 (pV p),.iface 185 (pV d),pV s,pV l,iV S.now] 113,Fd f 64 S.F,Pl p S.B,Dk d S.D,Sr 288 s S.q,Lg l S.T]:=by
 refine AC func358 ntmps358 fun g w0 R h0=>g0<|nP 48 [iV 3,iV y,uV z] h0 (fun _ _ h12=> ?_)
 refine g0<|dw (Tr.fl 0 (Tr.an 1 (AE [2,3] (Tr.an 4 (AE [5,6,7,8,9,10,11,12,13,14,16] (Tr.an 15 (Tr.an 17 (AE [18,19] Tr.nil)))))))) h12 fun _ h14=> ?_
 have h15:=h14.a.t8
 refine g0<|BZ call40 (BA b l Value.nilIface (.iface 179 (pV f)) (.iface 182 (pV p)) (.iface 185 (pV d)) (pV s) (iV S.now)) h15 fun _ h17=>⟨kd [],?_⟩
 refine go [rd 1 3 1 0 3 h17]<|CJ call273 (Bg 3 y z om om om) h17 fun _ h19=>⟨kd [],?_⟩
 refine go [rd 1 10 1 0 1 h19,.s 1 13]<|lw (.pointer (some ⟨b,3,none⟩)) (fun _=>AA (x:=Ot 17) (i:=Ot 15) (b:=b) (off:=0) (z:=3) kr underlying110 1 kr 3 kr kr om om 3 om _) ?_
 have h22:=h19.d.t8
 refine go [rd 1 14 0 3 1 h19,rd 1 16 1 0 3 h19] ?_
 refine iG 185 (pV d) "All" [] 547 (fH d S.D) h22 ?_
 rintro v K _ (⟨p20,c21,rfl,rfl⟩) h24
 have h25:=CW h24
 have hl26:((AJ 1 (As S.D) 0).length)≤64:=by have h_:=DU 1 (As S.D) 0;rw[E1,hW.dl] at h_;exact h_
 refine⟨kd [rd 0 16 3 0 3 h25],?_⟩
 refine BZ call403 (SQ p20 ((AJ 1 (As S.D) 0).length) c21 (C2 3 S.D) (Sl 48 3 p20 ((AJ 1 (As S.D) 0).length) c21 (fl eO (C2 3 S.D))) (F5 _ _ _) (GH _ _) om 3 y z) h25.a.t9 fun _ h29=>⟨kd [],?_⟩
 refine g0 ?_
 exact en (.bool (decide ((3,y,z)∈(C2 3 S.D)))) [] ⟨_,_,rfl,⟨by rw[←Nr hg];rfl,rfl⟩,(yE (O5 (O5 (O5 (O5 (O5 (O5 (yC h29.x.x.c.x.x.f.t9))))))))⟩
theorem KU(b f p d s l:Nat)(S:Wst)(hW:WOk S)(x y z:Int)(e:0≤z)(i:z≤4294967295):HT prog 358 [pV b,.agg #[iV x,iV y,uV z]] (uG b f p d s l S) (fun v K=>v= .bool (decide (KR S (x,y,z)))∧K=uG b f p d s l S):=by
 by_cases h:CT (x,y,z)
 · rcases Nq h with a|a|a
   · have c:x=1:=a
     subst c
     exact uH b f p d s l S hW y z e i h h.2.2.1 h.2.2.2.1 h.2.2.2.2
   · have c:x=2:=a
     subst c
     exact uI b f p d s l S hW y z e i h h.2.2.1 h.2.2.2.1 h.2.2.2.2
   · have c:x=3:=a
     subst c
     exact uJ b f p d s l S hW y z e i h h.2.2.1 h.2.2.2.1 h.2.2.2.2
 · rw[decide_eq_false (fun a:KR S (x,y,z)=>h a.1)]
   exact oP b f p d s l S hW x y z e i h
section
section
variable {S : Wst} {k y z t : Int} {o : Ky}
theorem Yz(h:KR S (k,y,z)):(As (S.tab k))[y.toNat]? =some (1,z):=h.2
theorem Ns(h:CT (k,y,z)):y=(y.toNat:Int):=by have h1:0≤y:=h.2.2.1;omega
end
end
theorem fL(t:Int)(ht:1≤t∧t≤1048576):HQ 285 [iV t] [] (bT) []:=by
 refine AC func285 ntmps285 fun g w0 R h0=>go [.v 1 1 (oT (t≥1)),.v 1 4 (oT (t≤1048576))] ?_
 exact AD _ [] h0
theorem UQ(t:Int)(ht:t<1∨1048576<t):HQ 285 [iV t] [] (bF) []:=by
 refine AC func285 ntmps285 fun g w0 R a=>go [.s 1 1] ?_
 by_cases b:t≥1
 ·
  refine go [.v 1 1 (oT _ b),.v 1 4 (oF (t≤1048576))] ?_
  exact AD _ [] a
 refine go [.v 1 1 (oF _ b)] ?_
 exact AD _ [] a
theorem Nt(b:Nat)(S:Wst):HQ 301 [pV b] [Wd b S] (iV S.now) [Wd b S]:=by
 refine AC func301 ntmps301 fun g w0 R h0=> ?_
 obtain⟨f10,c,d,e,f,hW15,i⟩:=B8 h0
 have hW15n:=hW15.nl;have hW15m:=hW15.nh;have hW15t:=hW15.tn
 refine g0<|AF call40 (BA b f Value.nilIface (.iface 179 (pV f10)) (.iface 182 (pV c)) (.iface 185 (pV d)) (pV e) (iV S.now)) i fun k a=>go [rd 3 3 0 6 1 a] ?_
 have j:sat g _ (Wd b S::_):=AY hW15 a
 exact AD _ [] j
theorem Y0(b:Nat)(S:Wst):HT prog 20 [pV b] [Wd b S] (fun v K=> ∃a:Nat,v=pV a∧K= [Wd b S,Lg a S.T]):=by
 refine AC func20 ntmps20 fun g w0 R h0=> ?_
 obtain⟨f10,i,j,k,c,hW15,l⟩:=B8 h0
 have hW15n:=hW15.nl;have hW15m:=hW15.nh;have hW15t:=hW15.tn
 refine g0<|AF call40 (BA b c Value.nilIface (.iface 179 (pV f10)) (.iface 182 (pV i)) (.iface 185 (pV j)) (pV k) (iV S.now)) l fun _ d=> ?_
 have m:=d.e.t7
 refine go [rd 3 3 0 5 1 d]<|cP call41 (Mi c S.T) m ?_
 rintro v K t (⟨o,rfl,rfl⟩) p
 have q:=CW p
 refine g0 ?_
 have s:sat g _ (Wd b S::_):=AY hW15 q.f.f.f.f.f.t8
 exact en _ [] ⟨_,_,rfl,⟨o,rfl,rfl⟩,s⟩
theorem KV(b:Nat)(S:Wst):HT prog 39 [pV b] [Wd b S] (fun v K=> ∃C:Nat,v=pV C∧K= [Wd b S,Wd C S]):=by
 refine AC func39 ntmps39 fun g w0 R h0=> ?_
 obtain⟨f10,E,G,H,I,hW15,M⟩:=B8 h0
 have hW15n:=hW15.nl;have hW15m:=hW15.nh;have hW15t:=hW15.tn
 refine g0<|AF call40 (BA b I Value.nilIface (.iface 179 (pV f10)) (.iface 182 (pV E)) (.iface 185 (pV G)) (pV H) (iV S.now)) M fun _ N=>g0<|dw (AE [0,1,2,3,5,6,7,8,10,11,12,13] (Tr.an 4 (Tr.an 9 (Tr.fl 14 (Tr.an 15 (Tr.fl 16 Tr.nil)))))) N fun _ p=> ?_
 have O:=p.d.t7
 refine go [rd 3 3 0 4 1 p,rd 3 8 0 5 1 p,rd 3 13 0 6 1 p]<|cG call105 (eT H S.q) O ?_
 rintro v K _ (⟨s,rfl,rfl⟩) P
 have A:=CW P
 refine⟨kd [rd 0 13 2 6 1 A,rd 0 8 2 5 1 A],?_⟩
 refine cG call41 (Mi I S.T) A.f.t8 ?_
 rintro v K _ (⟨u,rfl,rfl⟩) Q
 have J:=CW Q
 refine⟨kd [rd 0 13 4 6 1 J],?_⟩
 refine g0<|nG (fun q_=>pV q_) 113 [Value.nilIface,Value.nilIface,Value.nilIface,Value.nilIface,pV s,pV u,iV S.now] J (fun l _ L=>⟨kd [],?_⟩)
 refine go [rd 4 3 5 0 4 L]<|DS 4<|g0<|Bm<|g0<|dw (AE [0,1,2,5,6] (Tr.an 3 (AE [4,7] (Tr.an 8 Tr.nil)))) L fun _ U=> ?_
 have V:=U.f.t10
 refine g0<|cG call106 (Py f10 64 S.F) V ?_
 rintro v K _ (⟨m,rfl,rfl⟩) W
 have X:=CW W
 refine⟨kd [],?_⟩
 refine lw (.iface 179 (pV m)) (fun _=>BS (t:=179) (x:=Ot 43) kr underlying179 rfl (pV m) kr _)<|lw (.pointer (some ⟨l,1,none⟩)) (fun _=>AA (x:=Ot 46) (i:=Ot 41) (b:=l) (off:=0) (z:=1) kr underlying110 1 kr 1 kr kr om om 1 om _)<|sG [(1,.iface 179 (pV m))] [Value.nilIface,.iface 179 (pV m),Value.nilIface,Value.nilIface,pV s,pV u,iV S.now] X.b.t11 fun _ Y=>⟨kd [],?_⟩
 refine g0<|Bm<|g0<|dw (AE [0,1,2,5,6] (Tr.an 3 (AE [4,7] (Tr.an 8 Tr.nil)))) Y fun _ Z=> ?_
 have aa:=Z.h.t11
 refine g0<|cG call107 (P8 E S.B) aa ?_
 rintro v K _ (⟨o,rfl,rfl⟩) ab
 have ac:=CW ab
 refine⟨kd [],?_⟩
 refine lw (.iface 182 (pV o)) (fun _=>BS (t:=182) (x:=Ot 54) kr underlying182 rfl (pV o) kr _)<|lw (.pointer (some ⟨l,2,none⟩)) (fun _=>AA (x:=Ot 57) (i:=Ot 52) (b:=l) (off:=0) (z:=2) kr underlying110 1 kr 2 kr kr om om 2 om _)<|sG [(2,.iface 182 (pV o))] [Value.nilIface,.iface 179 (pV m),.iface 182 (pV o),Value.nilIface,pV s,pV u,iV S.now] ac.b.t12 fun _ ad=>⟨kd [],?_⟩
 refine g0<|Bm<|g0<|dw (AE [0,1,2,5,6] (Tr.an 3 (AE [4,7] (Tr.an 8 Tr.nil)))) ad fun _ ae=> ?_
 have af:=ae.j.t12
 refine g0<|cG call108 (QA G S.D) af ?_
 rintro v K _ (⟨y,rfl,rfl⟩) ag
 have ah:=CW ag
 refine⟨kd [],?_⟩
 refine lw (.iface 185 (pV y)) (fun _=>BS (t:=185) (x:=Ot 65) kr underlying185 rfl (pV y) kr _)<|lw (.pointer (some ⟨l,3,none⟩)) (fun _=>AA (x:=Ot 68) (i:=Ot 63) (b:=l) (off:=0) (z:=3) kr underlying110 1 kr 3 kr kr om om 3 om _)<|sG [(3,.iface 185 (pV y))] [Value.nilIface,.iface 179 (pV m),.iface 182 (pV o),.iface 185 (pV y),pV s,pV u,iV S.now] ah.b.t13 fun al ai=>⟨kd [],?_⟩
 refine g0<|Bm<|g0<|up<|g0 ?_
 have aj:sat g _ (Wd b S::_):=AY hW15 ai.x.j.c.e.x.k.t13
 have ak:sat g _ (Wd l S::_):=AY hW15 aj.e.f.d.e.f.f.t8
 exact en _ [] ⟨_,_,rfl,⟨l,rfl,rfl⟩,ak.a.t3⟩
section
section
variable {S : Wst} {k a y z wy : Int} {o : Ky}
theorem Ff(h: ¬DP k a):Cs S k a=2∧CX S k a=(0,0,0)∧DY S k a=S:=by
 have e:Cs S k a=2:=if_pos h
 exact⟨e,if_neg (by rw[e];decide),if_pos (.inl h)⟩
theorem Nu(h:DP k a){e:Int}(he:GG S k a=e)(b:e≠0):Cs S k a=e∧CX S k a=(0,0,0)∧DY S k a=S:=by
 have e1:Cs S k a=e:=by unfold Cs;rw[if_neg (fun q=>q h),if_pos (by rw[he];exact b),he]
 exact⟨e1,if_neg (by rw[e1];exact b),if_pos (.inr (by rw[he];exact b))⟩
theorem Ij(h:DP k a)(he:GG S k a=0)(hq:S.q.headD 1=2):Cs S k a=15∧CX S k a=(0,0,0)∧DY S k a= {S with q:=S.q.tail}:=by
 have e1:Cs S k a=15:=by unfold Cs;rw[if_neg (fun q=>q h),if_neg (fun q=>q he),if_pos hq]
 refine⟨e1,if_neg (by rw[e1];decide),?_⟩
 unfold DY
 rw[if_neg (by rintro(q|q);exact q h;exact q he),if_neg (by rw[e1];decide)]
theorem KW(h:DP k a)(he:GG S k a=0)(b:S.q.headD 1≠2)(hq:S.q.headD 1=3):Cs S k a=14∧CX S k a=(0,0,0)∧DY S k a= {S with q:=S.q.tail}:=by
 have e1:Cs S k a=14:=by unfold Cs;rw[if_neg (fun q=>q h),if_neg (fun q=>q he),if_neg b,if_pos hq]
 refine⟨e1,if_neg (by rw[e1];decide),?_⟩
 unfold DY
 rw[if_neg (by rintro(q|q);exact q h;exact q he),if_neg (by rw[e1];decide)]
theorem SR(h:DP k a)(he:GG S k a=0)(b:S.q.headD 1≠2)(hq:S.q.headD 1≠3):Cs S k a=0∧CX S k a=Yg k (S.tab k)∧DY S k a=({S with q:=S.q.tail}:Wst).put k (P3 (S.tab k) (nV S k a)):=by
 have e1:Cs S k a=0:=by unfold Cs;rw[if_neg (fun q=>q h),if_neg (fun q=>q he),if_neg b,if_neg hq]
 refine⟨e1,if_pos e1,?_⟩
 unfold DY
 rw[if_neg (by rintro(q|q);exact q h;exact q he),if_pos e1]
theorem fM(h:0≤a∧a≤65535):DP 1 a:= .inl ⟨rfl,h.1,h.2⟩
theorem fN(h:1≤a∧a≤65536):DP 2 a:= .inr (.inl ⟨rfl,h.1,h.2⟩)
theorem fO(h:1≤a∧a≤1048576):DP 3 a:= .inr (.inr ⟨rfl,h.1,h.2⟩)
theorem fP(h: ¬(0≤a∧a≤65535)): ¬DP 1 a:=by unfold DP;omega
theorem fQ(h: ¬(1≤a∧a≤65536)): ¬DP 2 a:=by unfold DP;omega
theorem fR(h: ¬(1≤a∧a≤1048576)): ¬DP 3 a:=by unfold DP;omega
theorem oQ(h:k<1∨3<k): ¬DP k a:=by unfold DP;omega
theorem Y1{X:Xs}(h: ¬P1 X=none):0<(AJ 0 (As X) 0).length:=by
 rcases Nat.eq_zero_or_pos (AJ 0 (As X) 0).length with a|a
 · exact absurd (fre_none.2 a) h
 · exact a
theorem Jm(h:0≤a∧a≤65535):HB S.F a=GG S 1 a∧(HB S.F a=0→DX S.F a=Yg 1 S.F∧JV S.F a=P3 S.F a):=by
 have e:GG S 1 a=if P1 S.F=none then 4 else 0:=by
  unfold GG
  rw[if_neg (by rintro⟨q,_⟩;exact absurd q dc),if_neg (by rintro⟨q,_⟩;exact absurd q dc)]
  rfl
 rw[e]
 by_cases hf:P1 S.F=none
 · rw[if_pos hf]
   have b:=Pv (X:=S.F) h (fre_none.1 hf)
   exact⟨b.2.1,fun q=>absurd (b.2.1.symm.trans q) dc⟩
 · rw[if_neg hf]
   have hp:=UG (Y1 hf)
   have b:=Ya (X:=S.F) (v:=a) h hp
   refine⟨b.2.1,fun _=>⟨?_,?_⟩⟩
   · rw[b.1];unfold Yg;rw[hp]
   · rw[b.2.2];unfold P3;rw[hp]
theorem Jn(h:1≤a∧a≤65536):F0 S.B a=GG S 2 a∧(F0 S.B a=0→Dx S.B a=Yg 2 S.B∧LR S.B a=P3 S.B a):=by
 refine⟨?_,fun q=>⟨if_pos q,if_pos q⟩⟩
 unfold GG F0
 by_cases b:1048576<FI S.B+a
 · rw[if_pos b,if_pos ⟨rfl,b⟩]
 · rw[if_neg b,if_neg (fun q=>b q.2),if_neg (by rintro⟨q,_⟩;exact absurd q dc)]
   rfl
theorem Jo(h:1≤a∧a≤1048576):Fb S.D a S.now=GG S 3 a∧(Fb S.D a S.now=0→Dy S.D a S.now=Yg 3 S.D∧LS S.D a S.now=P3 S.D (S.now+a)):=by
 refine⟨?_,fun q=>⟨if_pos q,if_pos q⟩⟩
 have e1: ¬((3:Int)=2∧1048576<FI S.B+a):=fun q=>absurd q.1 dc
 by_cases b:1099511627776-a<S.now
 · exact(if_pos b:Fb S.D a S.now=17).trans ((if_neg e1).trans (if_pos ⟨rfl,b⟩)).symm
 · exact(if_neg b:Fb S.D a S.now=nY S.D).trans ((if_neg e1).trans (if_neg (fun q=>b q.2))).symm
theorem fS(h:0≤a∧a≤65535)(he:HB S.F a=0)(b:S.q.headD 1≠2)(hq:S.q.headD 1≠3):Cs S 1 a=0∧CX S 1 a=DX S.F a∧DY S 1 a= {S with q:=S.q.tail,F:=JV S.F a}:=by
 obtain⟨h1,h2⟩:=Jm (S:=S) h
 obtain⟨h3,h4⟩:=h2 he
 obtain⟨h5,h6,h7⟩:=SR (S:=S) (fM h) (h1▸he) b hq
 exact⟨h5,h6.trans h3.symm,h7.trans (by rw[h4];rfl)⟩
theorem fT(h:1≤a∧a≤65536)(he:F0 S.B a=0)(b:S.q.headD 1≠2)(hq:S.q.headD 1≠3):Cs S 2 a=0∧CX S 2 a=Dx S.B a∧DY S 2 a= {S with q:=S.q.tail,B:=LR S.B a}:=by
 obtain⟨h1,h2⟩:=Jn (S:=S) h
 obtain⟨h3,h4⟩:=h2 he
 obtain⟨h5,h6,h7⟩:=SR (S:=S) (fN h) (h1▸he) b hq
 exact⟨h5,h6.trans h3.symm,h7.trans (by rw[h4];rfl)⟩
theorem fU(h:1≤a∧a≤1048576)(he:Fb S.D a S.now=0)(b:S.q.headD 1≠2)(hq:S.q.headD 1≠3):Cs S 3 a=0∧CX S 3 a=Dy S.D a S.now∧DY S 3 a= {S with q:=S.q.tail,D:=LS S.D a S.now}:=by
 obtain⟨h1,h2⟩:=Jo (S:=S) h
 obtain⟨h3,h4⟩:=h2 he
 obtain⟨h5,h6,h7⟩:=SR (S:=S) (fO h) (h1▸he) b hq
 exact⟨h5,h6.trans h3.symm,h7.trans (by rw[h4];rfl)⟩
theorem Fg(h: ¬CT o∨wy<1∨3<wy):DQ S o wy=2∧D3 S o wy=0∧C7 S o wy=S:=by
 have e:DQ S o wy=2:=if_pos h
 exact⟨e,if_neg (by rw[e];decide),if_pos (by rw[e];decide)⟩
theorem Y2(h:CT o)(hw:1≤wy∧wy≤3)(hT: ¬KR S o):DQ S o wy=5∧D3 S o wy=0∧C7 S o wy=S:=by
 have e:DQ S o wy=5:=by unfold DQ;rw[if_neg (by rintro(q|q);exact q h;omega),if_pos hT]
 exact⟨e,if_neg (by rw[e];decide),if_pos (by rw[e];decide)⟩
theorem Y3(hw:1≤wy∧wy≤3)(hT:KR S o)(hn:10000≤S.T.length):DQ S o wy=4∧D3 S o wy=0∧C7 S o wy=S:=by
 have e:DQ S o wy=4:=by unfold DQ;rw[if_neg (by rintro(q|q);exact q hT.1;omega),if_neg (fun q=>q hT),if_pos hn]
 exact⟨e,if_neg (by rw[e];decide),if_pos (by rw[e];decide)⟩
theorem Ik(hw:1≤wy∧wy≤3)(hT:KR S o)(hn:S.T.length<10000):DQ S o wy=0∧D3 S o wy=S.q.headD 1∧C7 S o wy=if S.q.headD 1=1 then ({S with q:=S.q.tail,T:=S.T++ [⟨S.now,o,wy,S.q.headD 1⟩]}:Wst).put o.1 (GF (S.tab o.1) o) else {S with q:=S.q.tail,T:=S.T++ [⟨S.now,o,wy,S.q.headD 1⟩]}:=by
 have e:DQ S o wy=0:=by unfold DQ;rw[if_neg (by rintro(q|q);exact q hT.1;omega),if_neg (fun q=>q hT),if_neg om]
 exact⟨e,if_pos e,if_neg (by rw[e];decide)⟩
theorem KX(hW:WOk S)(h:CT o)(hw:1≤wy∧wy≤3):FH ⟨S.now,o,wy,S.q.headD 1⟩:=by
 have:=KS hW.qb
 exact⟨hW.nl,hW.nh,kgood_iff.2 h,hw.1,hw.2,this.1,this.2⟩
theorem fV(hT:KR S (1,y,z)):LP S.F (1,y,z)=GF S.F (1,y,z):=by
 obtain⟨hg,h1⟩:=hT
 have h2:Cm (As S.F) (1,y,z)=0:=YY (As S.F) (q:=y.toNat) (s:=(1,z)) rfl hg.2.2.2.1 hg.2.2.2.2 (Ns hg) h1 ⟨rfl,rfl⟩
 unfold LP GF
 rw[if_pos h2]
end
end
theorem oR(a:Int)(ha:0≤a∧a≤65535):HQ 269 [iV 1,iV a] [] (bT) []:=by
 refine AC func269 ntmps269 fun g w0 R h0=>go [.v 3 1 (oT (a≥0)),.v 3 4 (oT (a≤65535))] ?_
 exact AD _ [] h0
theorem Y4(a:Int)(ha:a<0∨65535<a):HQ 269 [iV 1,iV a] [] (bF) []:=by
 refine AC func269 ntmps269 fun g w0 R b=>go [.s 3 1] ?_
 by_cases c:a≥0
 ·
  refine go [.v 3 1 (oT _ c),.v 3 4 (oF (a≤65535))] ?_
  exact AD _ [] b
 refine go [.v 3 1 (oF _ c)] ?_
 exact AD _ [] b
theorem oS(a:Int)(ha:1≤a∧a≤65536):HQ 269 [iV 2,iV a] [] (bT) []:=by
 refine AC func269 ntmps269 fun g w0 R h0=>go [.v 5 1 (oT (a≥1)),.v 5 4 (oT (a≤65536))] ?_
 exact AD _ [] h0
theorem Y5(a:Int)(ha:a<1∨65536<a):HQ 269 [iV 2,iV a] [] (bF) []:=by
 refine AC func269 ntmps269 fun g w0 R b=>go [.s 5 1] ?_
 by_cases c:a≥1
 ·
  refine go [.v 5 1 (oT _ c),.v 5 4 (oF (a≤65536))] ?_
  exact AD _ [] b
 refine go [.v 5 1 (oF _ c)] ?_
 exact AD _ [] b
theorem oV(a:Int)(ha:1≤a∧a≤1048576):HQ 269 [iV 3,iV a] [] (bT) []:=by
 refine AC func269 ntmps269 fun g w0 R h0=>g0<|AP call285 (fL a om) h0 fun _ b=>g0 ?_
 exact AD _ [] b
theorem Y6(a:Int)(ha:a<1∨1048576<a):HQ 269 [iV 3,iV a] [] (bF) []:=by
 refine AC func269 ntmps269 fun g w0 R b=>g0 ?_
 by_cases e:1≤a
 ·
  refine AP call285 (UQ a om) b fun _ c=>g0 ?_
  exact AD _ [] c
 refine AP call285 (UQ a om) b fun _ d=>g0 ?_
 exact AD _ [] d
theorem uK(k a:Int)(hk:k<1∨3<k):HQ 269 [iV k,iV a] [] (bF) []:=by
 refine AC func269 ntmps269 fun g w0 R h0=>go [.v 2 0 (DR k 1),.v 4 0 (DR k 2),.v 6 0 (DR k 3)] ?_
 exact AD _ [] h0
theorem fW(b f p d s l:Nat)(S:Wst)(hW:WOk S)(a:Int)(ha:0≤a∧a≤65535):HT prog 270 [pV b,iV 1,iV a] [Cl b [Value.nilIface,.iface 179 (pV f),.iface 182 (pV p),.iface 185 (pV d),pV s,pV l,iV S.now] 113,Fd f 64 S.F,Pl p S.B,Dk d S.D,Sr 288 s S.q,Lg l S.T] (fun v K=> ∃c:Nat,v= .tuple #[.iface 179 (pV c),.agg #[iV ((DX S.F a).1),iV ((DX S.F a).2.1),uV ((DX S.F a).2.2)],iV (HB S.F a)]∧K= [Cl b [Value.nilIface,.iface 179 (pV f),.iface 182 (pV p),.iface 185 (pV d),pV s,pV l,iV S.now] 113,Fd f 64 S.F,Pl p S.B,Dk d S.D,Sr 288 s S.q,Lg l S.T,Fd c 64 (JV S.F a)]):=by
 refine AC func270 ntmps270 fun g w0 R h0=> ?_
 have hWn:=hW.nl;have hWm:=hW.nh;have hWt:=hW.tn
 refine g0<|nP 48 [iV 0,iV 0,uV 0] h0 (fun _ _ j=> ?_)
 refine go [.s 1 4]<|AS (.pointer (some ⟨b,1,none⟩)) (AA (x:=Ot 24) (i:=Ot 22) (b:=b) (off:=0) (z:=1) kr underlying110 1 kr 1 kr kr om om 1 om _) ?_
 have o:=j.b.t8
 refine go [rd 1 5 1 1 1 j]<|cP call106 (Py f 64 S.F) o ?_
 rintro v K _ (⟨e,rfl,rfl⟩) u
 have y:=(CW u).a.t9
 refine g0<|AF call344 (Yf e 64 S.F a) y fun _ A=>g0<|nP 48 [iV 0,iV 0,uV 0] A (fun _ _ C=> ?_)
 refine sA [iV ((DX S.F a).1),iV ((DX S.F a).2.1),uV ((DX S.F a).2.2)] C fun _ E=>g0<|dw (AE [0,1,2,3,4] (Tr.an 5 (Tr.fl 6 Tr.nil))) E fun _ k=>go [.s 6 1]<|lw (.iface 179 (pV e)) (fun _=>BS (t:=179) (x:=Ot 38) kr underlying179 rfl (pV e) kr _) ?_
 have G:=k.c.t10
 refine go [rd 6 2 0 0 3 k]<|sB [iV ((DX S.F a).1),iV ((DX S.F a).2.1),uV ((DX S.F a).2.2)] G fun _ m=>⟨kd [],?_⟩
 refine g0 ?_
 exact en _ [rd 0 0 0 0 3 m] ⟨_,_,rfl,⟨e,rfl,rfl⟩,m.b.h.h.h.h.x.h.t10.i.x.x.x.x.x.x.x.t8⟩
theorem fX(b f p d s l:Nat)(S:Wst)(hW:WOk S)(a:Int)(ha:1≤a∧a≤65536):HT prog 270 [pV b,iV 2,iV a] [Cl b [Value.nilIface,.iface 179 (pV f),.iface 182 (pV p),.iface 185 (pV d),pV s,pV l,iV S.now] 113,Fd f 64 S.F,Pl p S.B,Dk d S.D,Sr 288 s S.q,Lg l S.T] (fun v K=> ∃c:Nat,v= .tuple #[.iface 182 (pV c),.agg #[iV ((Dx S.B a).1),iV ((Dx S.B a).2.1),uV ((Dx S.B a).2.2)],iV (F0 S.B a)]∧K= [Cl b [Value.nilIface,.iface 179 (pV f),.iface 182 (pV p),.iface 185 (pV d),pV s,pV l,iV S.now] 113,Fd f 64 S.F,Pl p S.B,Dk d S.D,Sr 288 s S.q,Lg l S.T,Pl c (LR S.B a)]):=by
 refine AC func270 ntmps270 fun g w0 R h0=> ?_
 have hWn:=hW.nl;have hWm:=hW.nh;have hWt:=hW.tn
 refine g0<|nP 48 [iV 0,iV 0,uV 0] h0 (fun _ _ j=> ?_)
 refine go [.s 1 4]<|AS (.pointer (some ⟨b,2,none⟩)) (AA (x:=Ot 24) (i:=Ot 22) (b:=b) (off:=0) (z:=2) kr underlying110 1 kr 2 kr kr om om 2 om _) ?_
 have o:=j.c.t8
 refine go [rd 1 5 1 2 1 j]<|cP call107 (P8 p S.B) o ?_
 rintro v K _ (⟨e,rfl,rfl⟩) u
 have y:=(CW u).a.t9
 refine g0<|AF call345 (oM e S.B a om) y fun _ A=>g0<|nP 48 [iV 0,iV 0,uV 0] A (fun _ _ C=> ?_)
 refine sA [iV ((Dx S.B a).1),iV ((Dx S.B a).2.1),uV ((Dx S.B a).2.2)] C fun _ E=>g0<|dw (AE [0,1,2,3,4] (Tr.an 5 (Tr.fl 6 Tr.nil))) E fun _ k=>go [.s 11 1]<|lw (.iface 182 (pV e)) (fun _=>BS (t:=182) (x:=Ot 53) kr underlying182 rfl (pV e) kr _) ?_
 have G:=k.c.t10
 refine go [rd 11 2 0 0 3 k]<|sB [iV ((Dx S.B a).1),iV ((Dx S.B a).2.1),uV ((Dx S.B a).2.2)] G fun _ m=>⟨kd [],?_⟩
 refine g0 ?_
 exact en _ [rd 0 0 0 0 3 m] ⟨_,_,rfl,⟨e,rfl,rfl⟩,m.b.h.h.h.f.h.h.t10.i.x.x.x.x.x.x.x.t8⟩
theorem fY(b f p d s l:Nat)(S:Wst)(hW:WOk S)(a:Int)(ha:1≤a∧a≤1048576):HT prog 270 [pV b,iV 3,iV a] [Cl b [Value.nilIface,.iface 179 (pV f),.iface 182 (pV p),.iface 185 (pV d),pV s,pV l,iV S.now] 113,Fd f 64 S.F,Pl p S.B,Dk d S.D,Sr 288 s S.q,Lg l S.T] (fun v K=> ∃c:Nat,v= .tuple #[.iface 185 (pV c),.agg #[iV ((Dy S.D a S.now).1),iV ((Dy S.D a S.now).2.1),uV ((Dy S.D a S.now).2.2)],iV (Fb S.D a S.now)]∧K= [Cl b [Value.nilIface,.iface 179 (pV f),.iface 182 (pV p),.iface 185 (pV d),pV s,pV l,iV S.now] 113,Fd f 64 S.F,Pl p S.B,Dk d S.D,Sr 288 s S.q,Lg l S.T,Dk c (LS S.D a S.now)]):=by
 refine AC func270 ntmps270 fun g w0 R h0=> ?_
 have hWn:=hW.nl;have hWm:=hW.nh;have hWt:=hW.tn
 refine g0<|nP 48 [iV 0,iV 0,uV 0] h0 (fun _ _ k=> ?_)
 refine go [.s 1 4]<|AS (.pointer (some ⟨b,3,none⟩)) (AA (x:=Ot 24) (i:=Ot 22) (b:=b) (off:=0) (z:=3) kr underlying110 1 kr 3 kr kr om om 3 om _) ?_
 have y:=k.d.t8
 refine go [rd 1 5 1 3 1 k]<|cP call108 (QA d S.D) y ?_
 rintro v K _ (⟨j,rfl,rfl⟩) A
 have m:=CW A
 have C:=m.a.t9
 refine go [rd 15 5 3 6 1 m]<|AF call346 (Yx j S.D a S.now om om) C fun _ E=>g0<|nP 48 [iV 0,iV 0,uV 0] E (fun _ _ G=> ?_)
 refine sA [iV ((Dy S.D a S.now).1),iV ((Dy S.D a S.now).2.1),uV ((Dy S.D a S.now).2.2)] G fun _ H=>g0<|dw (AE [0,1,2,3,4] (Tr.an 5 (Tr.fl 6 Tr.nil))) H fun _ o=>go [.s 16 1]<|lw (.iface 185 (pV j)) (fun _=>BS (t:=185) (x:=Ot 72) kr underlying185 rfl (pV j) kr _) ?_
 have I:=o.c.t10
 refine go [rd 16 2 0 0 3 o]<|sB [iV ((Dy S.D a S.now).1),iV ((Dy S.D a S.now).2.1),uV ((Dy S.D a S.now).2.2)] I fun _ u=>⟨kd [],?_⟩
 refine g0 ?_
 exact en _ [rd 0 0 0 0 3 u] ⟨_,_,rfl,⟨j,rfl,rfl⟩,u.b.h.h.e.h.h.h.t10.i.x.x.x.x.x.x.x.t8⟩
theorem oW(b:Nat)(S:Wst)(a:Int)(ha:0≤a∧a≤65535):HQ 202 [pV b,iV 1,iV a] [Wd b S] (.tuple #[.agg #[iV (CX S 1 a).1,iV (CX S 1 a).2.1,uV (CX S 1 a).2.2],iV (Cs S 1 a)]) [Wd b (DY S 1 a)]:=by
 refine AC func202 ntmps202 fun g w0 R h0=> ?_
 obtain⟨f10,k,l,j,m,hW15,G⟩:=B8 h0
 have hW15n:=hW15.nl;have hW15m:=hW15.nh;have hW15t:=hW15.tn
 refine g0<|nP 48 [iV 0,iV 0,uV 0] G (fun ae _ H=> ?_)
 have I:=H.a.t8
 refine g0<|AF call40 (BA b m Value.nilIface (.iface 179 (pV f10)) (.iface 182 (pV k)) (.iface 185 (pV l)) (pV j) (iV S.now)) I fun _ J=>g0<|AP call269 (oR a om) J fun _ L=> ?_
 have M:=L.f.f.f.f.f.e.t8
 refine g0<|cP call270 (fW b f10 k l j m S hW15 a om) M ?_
 rintro v K _ (⟨t,rfl,rfl⟩) N
 have O:=IW N
 refine g0<|nP 48 [iV 0,iV 0,uV 0] O (fun af _ P=> ?_)
 refine g0<|sA [iV ((DX S.F a).1),iV ((DX S.F a).2.1),uV ((DX S.F a).2.2)] P fun _ o=>go [.s 6 1] ?_
 by_cases ag:(HB S.F a)=0
 ·
  have Q:=o.e.t10
  refine go [.v 6 1 (Db (HB S.F a) 0),rd 8 3 1 4 1 o]<|AF call271 (Gf j S.q) Q fun _ p=>go [.s 9 0] ?_
  by_cases u:(S.q.headD 1)=2
  ·
   have T:=p.h.t10
   refine go [.v 9 0 (G9 _ _ u)]<|sA [iV 0,iV 0,uV 0] T fun ah y=>g0 ?_
   have hp_:=Ij (S:=S) (fM ha) ((Jm (S:=S) ha).1.symm.trans om) om
   have U:=y.x.b.x.x.x.x.t10
   have V:sat g _ (Wd b ({S with q:=S.q.tail}:Wst)::_):=AY (hp_.2.2▸ED hW15 1 a) U
   exact en (.tuple #[.agg #[iV 0,iV 0,uV 0],iV 15]) [rd 0 0 0 0 3 y] ⟨_,[Wd b ({S with q:=S.q.tail}:Wst)],rfl,⟨by rw[hp_.1,hp_.2.1],by rw[hp_.2.2]⟩,V.d.a.t2⟩
  refine go [.v 9 0 (DR _ _ u),.s 11 0] ?_
  by_cases A:(S.q.headD 1)=3
  ·
   have W:=p.h.t10
   refine go [.v 11 0 (G9 _ _ A)]<|sA [iV 0,iV 0,uV 0] W fun ai B=>g0 ?_
   have hp_:=KW (S:=S) (fM ha) ((Jm (S:=S) ha).1.symm.trans om) om om
   have X:=B.x.b.x.x.x.x.t10
   have Y:sat g _ (Wd b ({S with q:=S.q.tail}:Wst)::_):=AY (hp_.2.2▸ED hW15 1 a) X
   exact en (.tuple #[.agg #[iV 0,iV 0,uV 0],iV 14]) [rd 0 0 0 0 3 B] ⟨_,[Wd b ({S with q:=S.q.tail}:Wst)],rfl,⟨by rw[hp_.1,hp_.2.1],by rw[hp_.2.2]⟩,Y.d.a.t2⟩
  refine go [.v 11 0 (DR _ _ A),.s 13 5]<|AS (.pointer (some ⟨b,1,none⟩)) (AA (x:=Ot 49) (i:=Ot 46) (b:=b) (off:=0) (z:=1) kr underlying110 1 kr 1 kr kr om om 1 om _)<|sP [(1,.iface 179 (pV t))] [Value.nilIface,.iface 179 (pV t),.iface 182 (pV k),.iface 185 (pV l),pV j,pV m,iV S.now] p.b.t10 fun _ C=> ?_
  have Z:=C.h.t10
  refine go [rd 14 0 2 0 3 C]<|sA [iV ((DX S.F a).1),iV ((DX S.F a).2.1),uV ((DX S.F a).2.2)] Z fun aj D=>g0 ?_
  have hp_:=fS (S:=S) ha om om om
  have aa:=D.x.c.x.x.h.f.t10
  have ab:sat g _ (Wd b ({S with q:=S.q.tail,F:=JV S.F a}:Wst)::_):=AY (hp_.2.2▸ED hW15 1 a) aa
  exact en (.tuple #[.agg #[iV ((DX S.F a).1),iV ((DX S.F a).2.1),uV ((DX S.F a).2.2)],iV 0]) [rd 0 0 0 0 3 D] ⟨_,[Wd b ({S with q:=S.q.tail,F:=JV S.F a}:Wst)],rfl,⟨by rw[hp_.1,hp_.2.1],by rw[hp_.2.2]⟩,ab.d.a.t2⟩
 have ac:=o.h.t10
 refine go [.v 6 1 (Tc (HB S.F a) 0)]<|sA [iV 0,iV 0,uV 0] ac fun ak E=>g0 ?_
 have hp_:=Nu (S:=S) (fM ha) (Jm (S:=S) ha).1.symm om
 have ad:sat g _ (Wd b S::_):=AY hW15 E.x.x.x.x.x.x.t10
 exact en (.tuple #[.agg #[iV 0,iV 0,uV 0],iV (HB S.F a)]) [rd 0 0 0 0 3 E] ⟨_,[Wd b S],rfl,⟨by rw[hp_.1,hp_.2.1],by rw[hp_.2.2]⟩,ad.d.a.t2⟩
theorem fZ(b:Nat)(S:Wst)(a:Int)(ha:a<0∨65535<a)(hng: ¬DP 1 a):HQ 202 [pV b,iV 1,iV a] [Wd b S] (.tuple #[.agg #[iV (CX S 1 a).1,iV (CX S 1 a).2.1,uV (CX S 1 a).2.2],iV (Cs S 1 a)]) [Wd b (DY S 1 a)]:=by
 refine AC func202 ntmps202 fun g w0 R h0=> ?_
 obtain⟨f10,i,j,l,m,hW15,o⟩:=B8 h0
 have hW15n:=hW15.nl;have hW15m:=hW15.nh;have hW15t:=hW15.tn
 refine g0<|nP 48 [iV 0,iV 0,uV 0] o (fun A _ p=> ?_)
 have q:=p.a.t8
 refine g0<|AF call40 (BA b m Value.nilIface (.iface 179 (pV f10)) (.iface 182 (pV i)) (.iface 185 (pV j)) (pV l) (iV S.now)) q fun _ c=>g0 ?_
 by_cases C:0≤a
 ·
  refine AP call269 (Y4 a om) c fun _ s=> ?_
  have t:=s.a.t8
  refine g0<|sA [iV 0,iV 0,uV 0] t fun D d=>g0 ?_
  have hp_:=Ff (S:=S) (k:=1) (a:=a) hng
  have u:sat g _ (Wd b S::_):=AY hW15 d.f.f.f.f.f.f.t8
  exact en (.tuple #[.agg #[iV 0,iV 0,uV 0],iV 2]) [rd 0 0 0 0 3 d] ⟨_,[Wd b S],rfl,⟨by rw[hp_.1,hp_.2.1],by rw[hp_.2.2]⟩,u.B.t2⟩
 refine AP call269 (Y4 a om) c fun _ x=> ?_
 have y:=x.a.t8
 refine g0<|sA [iV 0,iV 0,uV 0] y fun E e=>g0 ?_
 have hp_:=Ff (S:=S) (k:=1) (a:=a) hng
 have z:sat g _ (Wd b S::_):=AY hW15 e.f.f.f.f.f.f.t8
 exact en (.tuple #[.agg #[iV 0,iV 0,uV 0],iV 2]) [rd 0 0 0 0 3 e] ⟨_,[Wd b S],rfl,⟨by rw[hp_.1,hp_.2.1],by rw[hp_.2.2]⟩,z.B.t2⟩
theorem oX(b:Nat)(S:Wst)(a:Int)(ha:1≤a∧a≤65536):HQ 202 [pV b,iV 2,iV a] [Wd b S] (.tuple #[.agg #[iV (CX S 2 a).1,iV (CX S 2 a).2.1,uV (CX S 2 a).2.2],iV (Cs S 2 a)]) [Wd b (DY S 2 a)]:=by
 refine AC func202 ntmps202 fun g w0 R h0=> ?_
 obtain⟨f10,p,k,j,l,hW15,G⟩:=B8 h0
 have hW15n:=hW15.nl;have hW15m:=hW15.nh;have hW15t:=hW15.tn
 refine g0<|nP 48 [iV 0,iV 0,uV 0] G (fun ae _ H=> ?_)
 have I:=H.a.t8
 refine g0<|AF call40 (BA b l Value.nilIface (.iface 179 (pV f10)) (.iface 182 (pV p)) (.iface 185 (pV k)) (pV j) (iV S.now)) I fun _ J=>g0<|AP call269 (oS a om) J fun _ L=> ?_
 have M:=L.f.f.f.f.f.e.t8
 refine g0<|cP call270 (fX b f10 p k j l S hW15 a om) M ?_
 rintro v K _ (⟨t,rfl,rfl⟩) N
 have O:=IW N
 refine g0<|nP 48 [iV 0,iV 0,uV 0] O (fun af _ P=> ?_)
 refine g0<|sA [iV ((Dx S.B a).1),iV ((Dx S.B a).2.1),uV ((Dx S.B a).2.2)] P fun _ m=>go [.s 6 1] ?_
 by_cases ag:(F0 S.B a)=0
 ·
  have Q:=m.e.t10
  refine go [.v 6 1 (Db (F0 S.B a) 0),rd 8 3 1 4 1 m]<|AF call271 (Gf j S.q) Q fun _ o=>go [.s 9 0] ?_
  by_cases u:(S.q.headD 1)=2
  ·
   have T:=o.h.t10
   refine go [.v 9 0 (G9 _ _ u)]<|sA [iV 0,iV 0,uV 0] T fun ah y=>g0 ?_
   have hp_:=Ij (S:=S) (fN ha) ((Jn (S:=S) ha).1.symm.trans om) om
   have U:=y.x.b.x.x.x.x.t10
   have V:sat g _ (Wd b ({S with q:=S.q.tail}:Wst)::_):=AY (hp_.2.2▸ED hW15 2 a) U
   exact en (.tuple #[.agg #[iV 0,iV 0,uV 0],iV 15]) [rd 0 0 0 0 3 y] ⟨_,[Wd b ({S with q:=S.q.tail}:Wst)],rfl,⟨by rw[hp_.1,hp_.2.1],by rw[hp_.2.2]⟩,V.d.a.t2⟩
  refine go [.v 9 0 (DR _ _ u),.s 11 0] ?_
  by_cases A:(S.q.headD 1)=3
  ·
   have W:=o.h.t10
   refine go [.v 11 0 (G9 _ _ A)]<|sA [iV 0,iV 0,uV 0] W fun ai C=>g0 ?_
   have hp_:=KW (S:=S) (fN ha) ((Jn (S:=S) ha).1.symm.trans om) om om
   have X:=C.x.b.x.x.x.x.t10
   have Y:sat g _ (Wd b ({S with q:=S.q.tail}:Wst)::_):=AY (hp_.2.2▸ED hW15 2 a) X
   exact en (.tuple #[.agg #[iV 0,iV 0,uV 0],iV 14]) [rd 0 0 0 0 3 C] ⟨_,[Wd b ({S with q:=S.q.tail}:Wst)],rfl,⟨by rw[hp_.1,hp_.2.1],by rw[hp_.2.2]⟩,Y.d.a.t2⟩
  refine go [.v 11 0 (DR _ _ A),.s 13 5]<|AS (.pointer (some ⟨b,2,none⟩)) (AA (x:=Ot 49) (i:=Ot 46) (b:=b) (off:=0) (z:=2) kr underlying110 1 kr 2 kr kr om om 2 om _)<|sP [(2,.iface 182 (pV t))] [Value.nilIface,.iface 179 (pV f10),.iface 182 (pV t),.iface 185 (pV k),pV j,pV l,iV S.now] o.b.t10 fun _ D=> ?_
  have Z:=D.h.t10
  refine go [rd 14 0 2 0 3 D]<|sA [iV ((Dx S.B a).1),iV ((Dx S.B a).2.1),uV ((Dx S.B a).2.2)] Z fun aj E=>g0 ?_
  have hp_:=fT (S:=S) ha om om om
  have aa:=E.x.c.x.h.x.f.t10
  have ab:sat g _ (Wd b ({S with q:=S.q.tail,B:=LR S.B a}:Wst)::_):=AY (hp_.2.2▸ED hW15 2 a) aa
  exact en (.tuple #[.agg #[iV ((Dx S.B a).1),iV ((Dx S.B a).2.1),uV ((Dx S.B a).2.2)],iV 0]) [rd 0 0 0 0 3 E] ⟨_,[Wd b ({S with q:=S.q.tail,B:=LR S.B a}:Wst)],rfl,⟨by rw[hp_.1,hp_.2.1],by rw[hp_.2.2]⟩,ab.d.a.t2⟩
 have ac:=m.h.t10
 refine go [.v 6 1 (Tc (F0 S.B a) 0)]<|sA [iV 0,iV 0,uV 0] ac fun ak F=>g0 ?_
 have hp_:=Nu (S:=S) (fN ha) (Jn (S:=S) ha).1.symm om
 have ad:sat g _ (Wd b S::_):=AY hW15 F.x.x.x.x.x.x.t10
 exact en (.tuple #[.agg #[iV 0,iV 0,uV 0],iV (F0 S.B a)]) [rd 0 0 0 0 3 F] ⟨_,[Wd b S],rfl,⟨by rw[hp_.1,hp_.2.1],by rw[hp_.2.2]⟩,ad.d.a.t2⟩
theorem gA(b:Nat)(S:Wst)(a:Int)(ha:a<1∨65536<a)(hng: ¬DP 2 a):HQ 202 [pV b,iV 2,iV a] [Wd b S] (.tuple #[.agg #[iV (CX S 2 a).1,iV (CX S 2 a).2.1,uV (CX S 2 a).2.2],iV (Cs S 2 a)]) [Wd b (DY S 2 a)]:=by
 refine AC func202 ntmps202 fun g w0 R h0=> ?_
 obtain⟨f10,i,j,l,m,hW15,o⟩:=B8 h0
 have hW15n:=hW15.nl;have hW15m:=hW15.nh;have hW15t:=hW15.tn
 refine g0<|nP 48 [iV 0,iV 0,uV 0] o (fun A _ p=> ?_)
 have q:=p.a.t8
 refine g0<|AF call40 (BA b m Value.nilIface (.iface 179 (pV f10)) (.iface 182 (pV i)) (.iface 185 (pV j)) (pV l) (iV S.now)) q fun _ c=>g0 ?_
 by_cases C:1≤a
 ·
  refine AP call269 (Y5 a om) c fun _ s=> ?_
  have t:=s.a.t8
  refine g0<|sA [iV 0,iV 0,uV 0] t fun D d=>g0 ?_
  have hp_:=Ff (S:=S) (k:=2) (a:=a) hng
  have u:sat g _ (Wd b S::_):=AY hW15 d.f.f.f.f.f.f.t8
  exact en (.tuple #[.agg #[iV 0,iV 0,uV 0],iV 2]) [rd 0 0 0 0 3 d] ⟨_,[Wd b S],rfl,⟨by rw[hp_.1,hp_.2.1],by rw[hp_.2.2]⟩,u.B.t2⟩
 refine AP call269 (Y5 a om) c fun _ x=> ?_
 have y:=x.a.t8
 refine g0<|sA [iV 0,iV 0,uV 0] y fun E e=>g0 ?_
 have hp_:=Ff (S:=S) (k:=2) (a:=a) hng
 have z:sat g _ (Wd b S::_):=AY hW15 e.f.f.f.f.f.f.t8
 exact en (.tuple #[.agg #[iV 0,iV 0,uV 0],iV 2]) [rd 0 0 0 0 3 e] ⟨_,[Wd b S],rfl,⟨by rw[hp_.1,hp_.2.1],by rw[hp_.2.2]⟩,z.B.t2⟩
theorem oY(b:Nat)(S:Wst)(a:Int)(ha:1≤a∧a≤1048576):HQ 202 [pV b,iV 3,iV a] [Wd b S] (.tuple #[.agg #[iV (CX S 3 a).1,iV (CX S 3 a).2.1,uV (CX S 3 a).2.2],iV (Cs S 3 a)]) [Wd b (DY S 3 a)]:=by
 refine AC func202 ntmps202 fun g w0 R h0=> ?_
 obtain⟨f10,k,p,j,l,hW15,G⟩:=B8 h0
 have hW15n:=hW15.nl;have hW15m:=hW15.nh;have hW15t:=hW15.tn
 refine g0<|nP 48 [iV 0,iV 0,uV 0] G (fun ae _ H=> ?_)
 have I:=H.a.t8
 refine g0<|AF call40 (BA b l Value.nilIface (.iface 179 (pV f10)) (.iface 182 (pV k)) (.iface 185 (pV p)) (pV j) (iV S.now)) I fun _ J=>g0<|AP call269 (oV a om) J fun _ L=> ?_
 have M:=L.f.f.f.f.f.e.t8
 refine g0<|cP call270 (fY b f10 k p j l S hW15 a om) M ?_
 rintro v K _ (⟨t,rfl,rfl⟩) N
 have O:=IW N
 refine g0<|nP 48 [iV 0,iV 0,uV 0] O (fun af _ P=> ?_)
 refine g0<|sA [iV ((Dy S.D a S.now).1),iV ((Dy S.D a S.now).2.1),uV ((Dy S.D a S.now).2.2)] P fun _ m=>go [.s 6 1] ?_
 by_cases ag:(Fb S.D a S.now)=0
 ·
  have Q:=m.e.t10
  refine go [.v 6 1 (Db (Fb S.D a S.now) 0),rd 8 3 1 4 1 m]<|AF call271 (Gf j S.q) Q fun _ o=>go [.s 9 0] ?_
  by_cases u:(S.q.headD 1)=2
  ·
   have T:=o.h.t10
   refine go [.v 9 0 (G9 _ _ u)]<|sA [iV 0,iV 0,uV 0] T fun ah y=>g0 ?_
   have hp_:=Ij (S:=S) (fO ha) ((Jo (S:=S) ha).1.symm.trans om) om
   have U:=y.x.b.x.x.x.x.t10
   have V:sat g _ (Wd b ({S with q:=S.q.tail}:Wst)::_):=AY (hp_.2.2▸ED hW15 3 a) U
   exact en (.tuple #[.agg #[iV 0,iV 0,uV 0],iV 15]) [rd 0 0 0 0 3 y] ⟨_,[Wd b ({S with q:=S.q.tail}:Wst)],rfl,⟨by rw[hp_.1,hp_.2.1],by rw[hp_.2.2]⟩,V.d.a.t2⟩
  refine go [.v 9 0 (DR _ _ u),.s 11 0] ?_
  by_cases A:(S.q.headD 1)=3
  ·
   have W:=o.h.t10
   refine go [.v 11 0 (G9 _ _ A)]<|sA [iV 0,iV 0,uV 0] W fun ai B=>g0 ?_
   have hp_:=KW (S:=S) (fO ha) ((Jo (S:=S) ha).1.symm.trans om) om om
   have X:=B.x.b.x.x.x.x.t10
   have Y:sat g _ (Wd b ({S with q:=S.q.tail}:Wst)::_):=AY (hp_.2.2▸ED hW15 3 a) X
   exact en (.tuple #[.agg #[iV 0,iV 0,uV 0],iV 14]) [rd 0 0 0 0 3 B] ⟨_,[Wd b ({S with q:=S.q.tail}:Wst)],rfl,⟨by rw[hp_.1,hp_.2.1],by rw[hp_.2.2]⟩,Y.d.a.t2⟩
  refine go [.v 11 0 (DR _ _ A),.s 13 5]<|AS (.pointer (some ⟨b,3,none⟩)) (AA (x:=Ot 49) (i:=Ot 46) (b:=b) (off:=0) (z:=3) kr underlying110 1 kr 3 kr kr om om 3 om _)<|sP [(3,.iface 185 (pV t))] [Value.nilIface,.iface 179 (pV f10),.iface 182 (pV k),.iface 185 (pV t),pV j,pV l,iV S.now] o.b.t10 fun _ C=> ?_
  have Z:=C.h.t10
  refine go [rd 14 0 2 0 3 C]<|sA [iV ((Dy S.D a S.now).1),iV ((Dy S.D a S.now).2.1),uV ((Dy S.D a S.now).2.2)] Z fun aj E=>g0 ?_
  have hp_:=fU (S:=S) ha om om om
  have aa:=E.x.c.h.x.x.f.t10
  have ab:sat g _ (Wd b ({S with q:=S.q.tail,D:=LS S.D a S.now}:Wst)::_):=AY (hp_.2.2▸ED hW15 3 a) aa
  exact en (.tuple #[.agg #[iV ((Dy S.D a S.now).1),iV ((Dy S.D a S.now).2.1),uV ((Dy S.D a S.now).2.2)],iV 0]) [rd 0 0 0 0 3 E] ⟨_,[Wd b ({S with q:=S.q.tail,D:=LS S.D a S.now}:Wst)],rfl,⟨by rw[hp_.1,hp_.2.1],by rw[hp_.2.2]⟩,ab.d.a.t2⟩
 have ac:=m.h.t10
 refine go [.v 6 1 (Tc (Fb S.D a S.now) 0)]<|sA [iV 0,iV 0,uV 0] ac fun ak F=>g0 ?_
 have hp_:=Nu (S:=S) (fO ha) (Jo (S:=S) ha).1.symm om
 have ad:sat g _ (Wd b S::_):=AY hW15 F.x.x.x.x.x.x.t10
 exact en (.tuple #[.agg #[iV 0,iV 0,uV 0],iV (Fb S.D a S.now)]) [rd 0 0 0 0 3 F] ⟨_,[Wd b S],rfl,⟨by rw[hp_.1,hp_.2.1],by rw[hp_.2.2]⟩,ad.d.a.t2⟩
theorem gB(b:Nat)(S:Wst)(a:Int)(ha:a<1∨1048576<a)(hng: ¬DP 3 a):HQ 202 [pV b,iV 3,iV a] [Wd b S] (.tuple #[.agg #[iV (CX S 3 a).1,iV (CX S 3 a).2.1,uV (CX S 3 a).2.2],iV (Cs S 3 a)]) [Wd b (DY S 3 a)]:=by
 refine AC func202 ntmps202 fun g w0 R h0=> ?_
 obtain⟨f10,i,j,l,m,hW15,o⟩:=B8 h0
 have hW15n:=hW15.nl;have hW15m:=hW15.nh;have hW15t:=hW15.tn
 refine g0<|nP 48 [iV 0,iV 0,uV 0] o (fun A _ p=> ?_)
 have q:=p.a.t8
 refine g0<|AF call40 (BA b m Value.nilIface (.iface 179 (pV f10)) (.iface 182 (pV i)) (.iface 185 (pV j)) (pV l) (iV S.now)) q fun _ c=>g0 ?_
 by_cases C:1≤a
 ·
  refine AP call269 (Y6 a om) c fun _ s=> ?_
  have t:=s.a.t8
  refine g0<|sA [iV 0,iV 0,uV 0] t fun D d=>g0 ?_
  have hp_:=Ff (S:=S) (k:=3) (a:=a) hng
  have u:sat g _ (Wd b S::_):=AY hW15 d.f.f.f.f.f.f.t8
  exact en (.tuple #[.agg #[iV 0,iV 0,uV 0],iV 2]) [rd 0 0 0 0 3 d] ⟨_,[Wd b S],rfl,⟨by rw[hp_.1,hp_.2.1],by rw[hp_.2.2]⟩,u.B.t2⟩
 refine AP call269 (Y6 a om) c fun _ x=> ?_
 have y:=x.a.t8
 refine g0<|sA [iV 0,iV 0,uV 0] y fun E e=>g0 ?_
 have hp_:=Ff (S:=S) (k:=3) (a:=a) hng
 have z:sat g _ (Wd b S::_):=AY hW15 e.f.f.f.f.f.f.t8
 exact en (.tuple #[.agg #[iV 0,iV 0,uV 0],iV 2]) [rd 0 0 0 0 3 e] ⟨_,[Wd b S],rfl,⟨by rw[hp_.1,hp_.2.1],by rw[hp_.2.2]⟩,z.B.t2⟩
theorem oZ(b:Nat)(S:Wst)(k a:Int)(hk:k<1∨3<k)(hng: ¬DP k a):HQ 202 [pV b,iV k,iV a] [Wd b S] (.tuple #[.agg #[iV (CX S k a).1,iV (CX S k a).2.1,uV (CX S k a).2.2],iV (Cs S k a)]) [Wd b (DY S k a)]:=by
 refine AC func202 ntmps202 fun g w0 R h0=> ?_
 obtain⟨f10,d,e,i,j,hW15,l⟩:=B8 h0
 have hW15n:=hW15.nl;have hW15m:=hW15.nh;have hW15t:=hW15.tn
 refine g0<|nP 48 [iV 0,iV 0,uV 0] l (fun u _ m=> ?_)
 have o:=m.a.t8
 refine g0<|AF call40 (BA b j Value.nilIface (.iface 179 (pV f10)) (.iface 182 (pV d)) (.iface 185 (pV e)) (pV i) (iV S.now)) o fun _ p=>g0<|AP call269 (uK k a om) p fun _ q=> ?_
 have s:=q.a.t8
 refine g0<|sA [iV 0,iV 0,uV 0] s fun x c=>g0 ?_
 have hp_:=Ff (S:=S) (k:=k) (a:=a) hng
 have t:sat g _ (Wd b S::_):=AY hW15 c.f.f.f.f.f.f.t8
 exact en (.tuple #[.agg #[iV 0,iV 0,uV 0],iV 2]) [rd 0 0 0 0 3 c] ⟨_,[Wd b S],rfl,⟨by rw[hp_.1,hp_.2.1],by rw[hp_.2.2]⟩,t.B.t2⟩
theorem gD(b:Nat)(S:Wst)(k a:Int):HQ 202 [pV b,iV k,iV a] [Wd b S] (.tuple #[.agg #[Value.int .i64 (CX S k a).1,Value.int .i64 (CX S k a).2.1,Value.int .u32 (CX S k a).2.2],Value.int .i64 (Cs S k a)]) [Wd b (DY S k a)]:=by
 by_cases h1:k=1
 · subst h1
   by_cases h:0≤a∧a≤65535
   · exact oW b S a h
   · exact fZ b S a om (fP h)
 · by_cases h2:k=2
   · subst h2
     by_cases h:1≤a∧a≤65536
     · exact oX b S a h
     · exact gA b S a om (fQ h)
   · by_cases h3:k=3
     · subst h3
       by_cases h:1≤a∧a≤1048576
       · exact oY b S a h
       · exact gB b S a om (fR h)
     · exact oZ b S k a om (oQ om)
theorem pA(b f p d s l:Nat)(z0:Int):HQ 420 [pV b,iV 1] [Cl b [Value.nilIface,.iface 179 (pV f),.iface 182 (pV p),.iface 185 (pV d),pV s,pV l,iV z0] 113] (.func (Fn.func 452) #[pV f] #[]) [Cl b [Value.nilIface,.iface 179 (pV f),.iface 182 (pV p),.iface 185 (pV d),pV s,pV l,iV z0] 113]:=by
 refine AC func420 ntmps420 fun g w0 R a=>go [.s 1 4]<|AS (.pointer (some ⟨b,1,none⟩)) (AA (x:=Ot 11) (i:=Ot 9) (b:=b) (off:=0) (z:=1) kr underlying110 1 kr 1 kr kr om om 1 om _)<|go [rd 1 5 0 1 1 a] ?_
 exact AD _ [] a
theorem pB(b f p d s l:Nat)(z0:Int):HQ 420 [pV b,iV 2] [Cl b [Value.nilIface,.iface 179 (pV f),.iface 182 (pV p),.iface 185 (pV d),pV s,pV l,iV z0] 113] (.func (Fn.func 453) #[pV p] #[]) [Cl b [Value.nilIface,.iface 179 (pV f),.iface 182 (pV p),.iface 185 (pV d),pV s,pV l,iV z0] 113]:=by
 refine AC func420 ntmps420 fun g w0 R a=>go [.s 1 4]<|AS (.pointer (some ⟨b,2,none⟩)) (AA (x:=Ot 11) (i:=Ot 9) (b:=b) (off:=0) (z:=2) kr underlying110 1 kr 2 kr kr om om 2 om _)<|go [rd 1 5 0 2 1 a] ?_
 exact AD _ [] a
theorem pC(b f p d s l:Nat)(z0:Int):HQ 420 [pV b,iV 3] [Cl b [Value.nilIface,.iface 179 (pV f),.iface 182 (pV p),.iface 185 (pV d),pV s,pV l,iV z0] 113] (.func (Fn.func 454) #[pV d] #[]) [Cl b [Value.nilIface,.iface 179 (pV f),.iface 182 (pV p),.iface 185 (pV d),pV s,pV l,iV z0] 113]:=by
 refine AC func420 ntmps420 fun g w0 R a=>go [.s 1 4]<|AS (.pointer (some ⟨b,3,none⟩)) (AA (x:=Ot 11) (i:=Ot 9) (b:=b) (off:=0) (z:=3) kr underlying110 1 kr 3 kr kr om om 3 om _)<|go [rd 1 5 0 3 1 a] ?_
 exact AD _ [] a
theorem gE(b:Nat)(S:Wst)(x y z wy:Int)(H:0≤z)(I:z≤4294967295)(hg: ¬(1≤x∧x≤3∧0≤y∧y≤63∧1≤z)):HQ 377 [pV b,.agg #[iV x,iV y,uV z],iV wy] [Wd b S] (.tuple #[iV (D3 S (x,y,z) wy),iV (DQ S (x,y,z) wy)]) [Wd b (C7 S (x,y,z) wy)]:=by
 refine AC func377 ntmps377 fun g w0 R h0=> ?_
 obtain⟨f10,d,i,j,k,hW15,l⟩:=B8 h0
 have hW15n:=hW15.nl;have hW15m:=hW15.nh;have hW15t:=hW15.tn
 refine g0<|nP 48 [iV x,iV y,uV z] l (fun J _ m=> ?_)
 have p:=m.a.t8
 refine g0<|AF call40 (BA b k Value.nilIface (.iface 179 (pV f10)) (.iface 182 (pV d)) (.iface 185 (pV i)) (pV j) (iV S.now)) p fun _ c=>go [rd 3 0 1 0 3 c] ?_
 by_cases L:1≤x
 ·
  by_cases M:x≤3
  ·
   by_cases N:0≤y
   ·
    by_cases O:y≤63
    ·
     refine AP call273 (Ao x y z om om om) c fun P q=>g0 ?_
     have hp_:=Fg (S:=S) (o:=(x,y,z)) (wy:=wy) (.inl hg)
     have s:sat g _ (Wd b S::_):=AY hW15 q.f.f.f.f.f.e.t8
     exact en (.tuple #[iV 0,iV 2]) [] ⟨_,[Wd b S],rfl,⟨by rw[hp_.1,hp_.2.1],by rw[hp_.2.2]⟩,s.B.t2⟩
    refine AP call273 (Ao x y z om om om) c fun Q t=>g0 ?_
    have hp_:=Fg (S:=S) (o:=(x,y,z)) (wy:=wy) (.inl hg)
    have u:sat g _ (Wd b S::_):=AY hW15 t.f.f.f.f.f.e.t8
    exact en (.tuple #[iV 0,iV 2]) [] ⟨_,[Wd b S],rfl,⟨by rw[hp_.1,hp_.2.1],by rw[hp_.2.2]⟩,u.B.t2⟩
   refine AP call273 (Ao x y z om om om) c fun T A=>g0 ?_
   have hp_:=Fg (S:=S) (o:=(x,y,z)) (wy:=wy) (.inl hg)
   have C:sat g _ (Wd b S::_):=AY hW15 A.f.f.f.f.f.e.t8
   exact en (.tuple #[iV 0,iV 2]) [] ⟨_,[Wd b S],rfl,⟨by rw[hp_.1,hp_.2.1],by rw[hp_.2.2]⟩,C.B.t2⟩
  refine AP call273 (Ao x y z om om om) c fun U D=>g0 ?_
  have hp_:=Fg (S:=S) (o:=(x,y,z)) (wy:=wy) (.inl hg)
  have E:sat g _ (Wd b S::_):=AY hW15 D.f.f.f.f.f.e.t8
  exact en (.tuple #[iV 0,iV 2]) [] ⟨_,[Wd b S],rfl,⟨by rw[hp_.1,hp_.2.1],by rw[hp_.2.2]⟩,E.B.t2⟩
 refine AP call273 (Ao x y z om om om) c fun V F=>g0 ?_
 have hp_:=Fg (S:=S) (o:=(x,y,z)) (wy:=wy) (.inl hg)
 have G:sat g _ (Wd b S::_):=AY hW15 F.f.f.f.f.f.e.t8
 exact en (.tuple #[iV 0,iV 2]) [] ⟨_,[Wd b S],rfl,⟨by rw[hp_.1,hp_.2.1],by rw[hp_.2.2]⟩,G.B.t2⟩
theorem gF(b:Nat)(S:Wst)(x y z:Int)(C:0≤z)(D:z≤4294967295)(hg:CT (x,y,z))(E:0≤y)(F:y≤63)(hz:1≤z)(hx:1≤x∧x≤3)(wy:Int)(hwy:wy<1∨3<wy):HQ 377 [pV b,.agg #[iV x,iV y,uV z],iV wy] [Wd b S] (.tuple #[iV (D3 S (x,y,z) wy),iV (DQ S (x,y,z) wy)]) [Wd b (C7 S (x,y,z) wy)]:=by
 refine AC func377 ntmps377 fun g w0 R h0=> ?_
 obtain⟨f10,j,k,l,m,hW15,p⟩:=B8 h0
 have hW15n:=hW15.nl;have hW15m:=hW15.nh;have hW15t:=hW15.tn
 refine g0<|nP 48 [iV x,iV y,uV z] p (fun G _ q=> ?_)
 have t:=q.a.t8
 refine g0<|AF call40 (BA b m Value.nilIface (.iface 179 (pV f10)) (.iface 182 (pV j)) (.iface 185 (pV k)) (pV l) (iV S.now)) t fun _ c=>go [rd 3 0 1 0 3 c]<|AP call273 (Bg x y z om om om) c fun H d=>go [.s 3 5] ?_
 by_cases i:wy<1
 ·
  refine go [.v 3 5 (oT _ i)] ?_
  have hp_:=Fg (S:=S) (o:=(x,y,z)) (wy:=wy) (.inr hwy)
  have u:sat g _ (Wd b S::_):=AY hW15 d.f.f.f.f.f.e.t8
  exact en (.tuple #[iV 0,iV 2]) [] ⟨_,[Wd b S],rfl,⟨by rw[hp_.1,hp_.2.1],by rw[hp_.2.2]⟩,u.B.t2⟩
 refine go [.v 3 5 (oF _ i),.v 3 9 (oT (wy>3))] ?_
 have hp_:=Fg (S:=S) (o:=(x,y,z)) (wy:=wy) (.inr hwy)
 have A:sat g _ (Wd b S::_):=AY hW15 d.f.f.f.f.f.e.t8
 exact en (.tuple #[iV 0,iV 2]) [] ⟨_,[Wd b S],rfl,⟨by rw[hp_.1,hp_.2.1],by rw[hp_.2.2]⟩,A.B.t2⟩
theorem Vq(b:Nat)(S:Wst)(x y z:Int)(A:0≤z)(C:z≤4294967295)(hg:CT (x,y,z))(D:0≤y)(E:y≤63)(hz:1≤z)(hx:1≤x∧x≤3)(hT: ¬KR S (x,y,z))(wy:Int)(hwy:1≤wy∧wy≤3):HQ 377 [pV b,.agg #[iV x,iV y,uV z],iV wy] [Wd b S] (.tuple #[iV (D3 S (x,y,z) wy),iV (DQ S (x,y,z) wy)]) [Wd b (C7 S (x,y,z) wy)]:=by
 refine AC func377 ntmps377 fun g w0 R h0=> ?_
 obtain⟨f10,c,d,i,j,hW15,m⟩:=B8 h0
 have hW15n:=hW15.nl;have hW15m:=hW15.nh;have hW15t:=hW15.tn
 refine g0<|nP 48 [iV x,iV y,uV z] m (fun F _ p=> ?_)
 have q:=p.a.t8
 refine g0<|AF call40 (BA b j Value.nilIface (.iface 179 (pV f10)) (.iface 182 (pV c)) (.iface 185 (pV d)) (pV i) (iV S.now)) q fun _ k=>go [rd 3 0 1 0 3 k]<|AP call273 (Bg x y z om om om) k fun _ l=> ?_
 have s:=l.f.f.f.f.f.e.t8
 refine go [.v 3 5 (oF (wy<1)),.v 3 9 (oF (wy>3)),rd 5 1 1 0 3 l]<|U7 call358 (by have h_:=KU b f10 c d i j S hW15 x y z om om;rw[decide_eq_false hT] at h_;exact h_) s fun G t=> ?_
 refine g0 ?_
 have hp_:=Y2 (S:=S) (o:=(x,y,z)) hg hwy hT
 have u:sat g _ (Wd b S::_):=AY hW15 t
 exact en (.tuple #[iV 0,iV 5]) [] ⟨_,[Wd b S],rfl,⟨by rw[hp_.1,hp_.2.1],by rw[hp_.2.2]⟩,u.B.t2⟩
theorem Vr(b:Nat)(S:Wst)(x y z:Int)(D:0≤z)(E:z≤4294967295)(hg:CT (x,y,z))(F:0≤y)(G:y≤63)(hz:1≤z)(hx:1≤x∧x≤3)(hT:KR S (x,y,z))(wy:Int)(hwy:1≤wy∧wy≤3)(hn:10000≤S.T.length):HQ 377 [pV b,.agg #[iV x,iV y,uV z],iV wy] [Wd b S] (.tuple #[iV (D3 S (x,y,z) wy),iV (DQ S (x,y,z) wy)]) [Wd b (C7 S (x,y,z) wy)]:=by
 refine AC func377 ntmps377 fun g w0 R h0=> ?_
 obtain⟨f10,d,i,j,c,hW15,p⟩:=B8 h0
 have hW15n:=hW15.nl;have hW15m:=hW15.nh;have hW15t:=hW15.tn
 refine g0<|nP 48 [iV x,iV y,uV z] p (fun H _ q=> ?_)
 have s:=q.a.t8
 refine g0<|AF call40 (BA b c Value.nilIface (.iface 179 (pV f10)) (.iface 182 (pV d)) (.iface 185 (pV i)) (pV j) (iV S.now)) s fun _ k=>go [rd 3 0 1 0 3 k]<|AP call273 (Bg x y z om om om) k fun _ l=> ?_
 have t:=l.f.f.f.f.f.e.t8
 refine go [.v 3 5 (oF (wy<1)),.v 3 9 (oF (wy>3)),rd 5 1 1 0 3 l]<|U7 call358 (by have h_:=KU b f10 d i j c S hW15 x y z om om;rw[decide_eq_true hT] at h_;exact h_) t fun _ m=> ?_
 have u:=m.e.t8
 refine go [rd 7 3 0 5 1 m]<|AF call418 (GI c S.T) u fun I A=>go [.v 7 5 (oT ((S.T.length:Int)≥10000))] ?_
 have hp_:=Y3 (S:=S) (o:=(x,y,z)) hwy hT hn
 have C:sat g _ (Wd b S::_):=AY hW15 A.e.e.e.e.e.t8
 exact en (.tuple #[iV 0,iV 4]) [] ⟨_,[Wd b S],rfl,⟨by rw[hp_.1,hp_.2.1],by rw[hp_.2.2]⟩,C.B.t2⟩
theorem pD(b:Nat)(S:Wst)(y z:Int)(Z:0≤z)(aa:z≤4294967295)(hg:CT (1,y,z))(ab:0≤y)(ac:y≤63)(hz:1≤z)(hT:KR S (1,y,z))(wy:Int)(hwy:1≤wy∧wy≤3)(hn:S.T.length<10000):HQ 377 [pV b,.agg #[iV 1,iV y,uV z],iV wy] [Wd b S] (.tuple #[iV (D3 S (1,y,z) wy),iV (DQ S (1,y,z) wy)]) [Wd b (C7 S (1,y,z) wy)]:=by
 refine AC func377 ntmps377 fun g w0 R h0=> ?_
 obtain⟨f10,m,p,k,j,hW15,H⟩:=B8 h0
 have hW15n:=hW15.nl;have hW15m:=hW15.nh;have hW15t:=hW15.tn
 refine g0<|nP 48 [iV 1,iV y,uV z] H (fun ad _ I=> ?_)
 have J:=I.a.t8
 refine g0<|AF call40 (BA b j Value.nilIface (.iface 179 (pV f10)) (.iface 182 (pV m)) (.iface 185 (pV p)) (pV k) (iV S.now)) J fun _ u=>go [rd 3 0 1 0 3 u]<|AP call273 (Bg 1 y z om om om) u fun _ x=> ?_
 have L:=x.f.f.f.f.f.e.t8
 refine go [.v 3 5 (oF (wy<1)),.v 3 9 (oF (wy>3)),rd 5 1 1 0 3 x]<|U7 call358 (by have h_:=KU b f10 m p k j S hW15 1 y z om om;rw[decide_eq_true hT] at h_;exact h_) L fun _ A=> ?_
 have M:=A.e.t8
 refine go [rd 7 3 0 5 1 A]<|AF call418 (GI j S.T) M fun _ C=> ?_
 have N:=C.e.t8
 refine go [.v 7 5 (oF ((S.T.length:Int)≥10000)),rd 9 3 1 4 1 C]<|AF call271 (Gf k S.q) N fun _ O=>g0<|dw (AE [0,1,2,3,4,5,6,7,8,9,10,11] (Tr.an 12 Tr.nil)) O fun _ l=> ?_
 have P:=l.a.t8
 refine go [rd 10 3 2 5 1 l,rd 10 7 2 6 1 l,rd 10 8 6 0 3 l]<|BZ call419 (KT j S.T S.now 1 y z wy (S.q.headD 1) om om (KX hW15 hg hwy) hW15.ta om) P fun ae D=>⟨kd [],?_⟩
 refine go [.s 11 1] ?_
 by_cases E:(S.q.headD 1)=1
 ·
  refine go [.v 11 1 (G9 _ _ E)]<|dw (AE [0,1,2,4] (Tr.an 3 (Tr.an 5 Tr.nil))) D fun _ t=> ?_
  have Q:=t.b.t8
  refine go [rd 12 2 6 0 1 t,rd 12 4 6 0 3 t]<|BZ call420 (pA b f10 m p k j S.now) Q fun _ G=>⟨kd [rd 0 4 6 0 3 G],?_⟩
  refine BZ call452 (by have h_:=Vj f10 64 S.F 1 y z om om;rw[show LP S.F (1,y,z)=GF S.F (1,y,z) from fV hT] at h_;exact h_) G.c.t8 fun af U=>⟨kd [],?_⟩
  refine g0 ?_
  have hp_:=Ik (S:=S) (o:=(1,y,z)) hwy hT hn
  have i:C7 S (1,y,z) wy=({S with q:=S.q.tail,T:=S.T++ [⟨S.now,(1,y,z),wy,S.q.headD 1⟩],F:=GF S.F (1,y,z)}:Wst):=hp_.2.2.trans (if_pos om)
  have V:=U.c.e.e.c.d.t8
  have W:sat g _ (Wd b ({S with q:=S.q.tail,T:=S.T++ [⟨S.now,(1,y,z),wy,S.q.headD 1⟩],F:=GF S.F (1,y,z)}:Wst)::_):=AY (i▸Gg hW15 (1,y,z) wy) V
  exact en (.tuple #[iV (S.q.headD 1),iV 0]) [] ⟨_,[Wd b ({S with q:=S.q.tail,T:=S.T++ [⟨S.now,(1,y,z),wy,S.q.headD 1⟩],F:=GF S.F (1,y,z)}:Wst)],rfl,⟨by rw[hp_.1,hp_.2.1],by rw[i]⟩,W.B.t2⟩
 refine go [.v 11 1 (DR _ _ E)] ?_
 have hp_:=Ik (S:=S) (o:=(1,y,z)) hwy hT hn
 have i:C7 S (1,y,z) wy=({S with q:=S.q.tail,T:=S.T++ [⟨S.now,(1,y,z),wy,S.q.headD 1⟩]}:Wst):=hp_.2.2.trans (if_neg om)
 have X:=D.a.e.e.e.e.t8
 have Y:sat g _ (Wd b ({S with q:=S.q.tail,T:=S.T++ [⟨S.now,(1,y,z),wy,S.q.headD 1⟩]}:Wst)::_):=AY (i▸Gg hW15 (1,y,z) wy) X
 exact en (.tuple #[iV (S.q.headD 1),iV 0]) [] ⟨_,[Wd b ({S with q:=S.q.tail,T:=S.T++ [⟨S.now,(1,y,z),wy,S.q.headD 1⟩]}:Wst)],rfl,⟨by rw[hp_.1,hp_.2.1],by rw[i]⟩,Y.B.t2⟩
theorem pE(b:Nat)(S:Wst)(y z:Int)(Y:0≤z)(Z:z≤4294967295)(hg:CT (2,y,z))(aa:0≤y)(ab:y≤63)(hz:1≤z)(hT:KR S (2,y,z))(wy:Int)(hwy:1≤wy∧wy≤3)(hn:S.T.length<10000):HQ 377 [pV b,.agg #[iV 2,iV y,uV z],iV wy] [Wd b S] (.tuple #[iV (D3 S (2,y,z) wy),iV (DQ S (2,y,z) wy)]) [Wd b (C7 S (2,y,z) wy)]:=by
 refine AC func377 ntmps377 fun g w0 R h0=> ?_
 obtain⟨f10,k,p,l,j,hW15,G⟩:=B8 h0
 have hW15n:=hW15.nl;have hW15m:=hW15.nh;have hW15t:=hW15.tn
 refine g0<|nP 48 [iV 2,iV y,uV z] G (fun ac _ H=> ?_)
 have I:=H.a.t8
 refine g0<|AF call40 (BA b j Value.nilIface (.iface 179 (pV f10)) (.iface 182 (pV k)) (.iface 185 (pV p)) (pV l) (iV S.now)) I fun _ u=>go [rd 3 0 1 0 3 u]<|AP call273 (Bg 2 y z om om om) u fun _ x=> ?_
 have J:=x.f.f.f.f.f.e.t8
 refine go [.v 3 5 (oF (wy<1)),.v 3 9 (oF (wy>3)),rd 5 1 1 0 3 x]<|U7 call358 (by have h_:=KU b f10 k p l j S hW15 2 y z om om;rw[decide_eq_true hT] at h_;exact h_) J fun _ A=> ?_
 have L:=A.e.t8
 refine go [rd 7 3 0 5 1 A]<|AF call418 (GI j S.T) L fun _ C=> ?_
 have M:=C.e.t8
 refine go [.v 7 5 (oF ((S.T.length:Int)≥10000)),rd 9 3 1 4 1 C]<|AF call271 (Gf l S.q) M fun _ N=>g0<|dw (AE [0,1,2,3,4,5,6,7,8,9,10,11] (Tr.an 12 Tr.nil)) N fun _ m=> ?_
 have O:=m.a.t8
 refine go [rd 10 3 2 5 1 m,rd 10 7 2 6 1 m,rd 10 8 6 0 3 m]<|BZ call419 (KT j S.T S.now 2 y z wy (S.q.headD 1) om om (KX hW15 hg hwy) hW15.ta om) O fun ad D=>⟨kd [],?_⟩
 refine go [.s 11 1] ?_
 by_cases E:(S.q.headD 1)=1
 ·
  refine go [.v 11 1 (G9 _ _ E)]<|dw (AE [0,1,2,4] (Tr.an 3 (Tr.an 5 Tr.nil))) D fun _ t=> ?_
  have P:=t.b.t8
  refine go [rd 12 2 6 0 1 t,rd 12 4 6 0 3 t]<|BZ call420 (pB b f10 k p l j S.now) P fun _ F=>⟨kd [rd 0 4 6 0 3 F],?_⟩
  refine BZ call453 (Vo k S.B y z y.toNat (Yz hT) (Ns hg)) F.d.t8 fun ae Q=>⟨kd [],?_⟩
  refine g0 ?_
  have hp_:=Ik (S:=S) (o:=(2,y,z)) hwy hT hn
  have i:C7 S (2,y,z) wy=({S with q:=S.q.tail,T:=S.T++ [⟨S.now,(2,y,z),wy,S.q.headD 1⟩],B:=GF S.B (2,y,z)}:Wst):=hp_.2.2.trans (if_pos om)
  have U:=Q.c.e.b.e.d.t8
  have V:sat g _ (Wd b ({S with q:=S.q.tail,T:=S.T++ [⟨S.now,(2,y,z),wy,S.q.headD 1⟩],B:=GF S.B (2,y,z)}:Wst)::_):=AY (i▸Gg hW15 (2,y,z) wy) U
  exact en (.tuple #[iV (S.q.headD 1),iV 0]) [] ⟨_,[Wd b ({S with q:=S.q.tail,T:=S.T++ [⟨S.now,(2,y,z),wy,S.q.headD 1⟩],B:=GF S.B (2,y,z)}:Wst)],rfl,⟨by rw[hp_.1,hp_.2.1],by rw[i]⟩,V.B.t2⟩
 refine go [.v 11 1 (DR _ _ E)] ?_
 have hp_:=Ik (S:=S) (o:=(2,y,z)) hwy hT hn
 have i:C7 S (2,y,z) wy=({S with q:=S.q.tail,T:=S.T++ [⟨S.now,(2,y,z),wy,S.q.headD 1⟩]}:Wst):=hp_.2.2.trans (if_neg om)
 have W:=D.a.e.e.e.e.t8
 have X:sat g _ (Wd b ({S with q:=S.q.tail,T:=S.T++ [⟨S.now,(2,y,z),wy,S.q.headD 1⟩]}:Wst)::_):=AY (i▸Gg hW15 (2,y,z) wy) W
 exact en (.tuple #[iV (S.q.headD 1),iV 0]) [] ⟨_,[Wd b ({S with q:=S.q.tail,T:=S.T++ [⟨S.now,(2,y,z),wy,S.q.headD 1⟩]}:Wst)],rfl,⟨by rw[hp_.1,hp_.2.1],by rw[i]⟩,X.B.t2⟩
theorem pF(b:Nat)(S:Wst)(y z:Int)(Z:0≤z)(aa:z≤4294967295)(hg:CT (3,y,z))(ab:0≤y)(ac:y≤63)(hz:1≤z)(hT:KR S (3,y,z))(wy:Int)(hwy:1≤wy∧wy≤3)(hn:S.T.length<10000):HQ 377 [pV b,.agg #[iV 3,iV y,uV z],iV wy] [Wd b S] (.tuple #[iV (D3 S (3,y,z) wy),iV (DQ S (3,y,z) wy)]) [Wd b (C7 S (3,y,z) wy)]:=by
 refine AC func377 ntmps377 fun g w0 R h0=> ?_
 obtain⟨f10,p,k,l,j,hW15,H⟩:=B8 h0
 have hW15n:=hW15.nl;have hW15m:=hW15.nh;have hW15t:=hW15.tn
 refine g0<|nP 48 [iV 3,iV y,uV z] H (fun ad _ I=> ?_)
 have J:=I.a.t8
 refine g0<|AF call40 (BA b j Value.nilIface (.iface 179 (pV f10)) (.iface 182 (pV p)) (.iface 185 (pV k)) (pV l) (iV S.now)) J fun _ u=>go [rd 3 0 1 0 3 u]<|AP call273 (Bg 3 y z om om om) u fun _ x=> ?_
 have L:=x.f.f.f.f.f.e.t8
 refine go [.v 3 5 (oF (wy<1)),.v 3 9 (oF (wy>3)),rd 5 1 1 0 3 x]<|U7 call358 (by have h_:=KU b f10 p k l j S hW15 3 y z om om;rw[decide_eq_true hT] at h_;exact h_) L fun _ A=> ?_
 have M:=A.e.t8
 refine go [rd 7 3 0 5 1 A]<|AF call418 (GI j S.T) M fun _ C=> ?_
 have N:=C.e.t8
 refine go [.v 7 5 (oF ((S.T.length:Int)≥10000)),rd 9 3 1 4 1 C]<|AF call271 (Gf l S.q) N fun _ O=>g0<|dw (AE [0,1,2,3,4,5,6,7,8,9,10,11] (Tr.an 12 Tr.nil)) O fun _ m=> ?_
 have P:=m.a.t8
 refine go [rd 10 3 2 5 1 m,rd 10 7 2 6 1 m,rd 10 8 6 0 3 m]<|BZ call419 (KT j S.T S.now 3 y z wy (S.q.headD 1) om om (KX hW15 hg hwy) hW15.ta om) P fun ae E=>⟨kd [],?_⟩
 refine go [.s 11 1] ?_
 by_cases F:(S.q.headD 1)=1
 ·
  refine go [.v 11 1 (G9 _ _ F)]<|dw (AE [0,1,2,4] (Tr.an 3 (Tr.an 5 Tr.nil))) E fun _ t=> ?_
  have Q:=t.b.t8
  refine go [rd 12 2 6 0 1 t,rd 12 4 6 0 3 t]<|BZ call420 (pC b f10 p k l j S.now) Q fun _ G=>⟨kd [rd 0 4 6 0 3 G],?_⟩
  refine BZ call454 (SO k S.D y z y.toNat (Yz hT) (Ns hg) om) G.e.t8 fun af U=>⟨kd [],?_⟩
  refine g0 ?_
  have hp_:=Ik (S:=S) (o:=(3,y,z)) hwy hT hn
  have i:C7 S (3,y,z) wy=({S with q:=S.q.tail,T:=S.T++ [⟨S.now,(3,y,z),wy,S.q.headD 1⟩],D:=GF S.D (3,y,z)}:Wst):=hp_.2.2.trans (if_pos om)
  have V:=U.c.a.e.e.d.t8
  have W:sat g _ (Wd b ({S with q:=S.q.tail,T:=S.T++ [⟨S.now,(3,y,z),wy,S.q.headD 1⟩],D:=GF S.D (3,y,z)}:Wst)::_):=AY (i▸Gg hW15 (3,y,z) wy) V
  exact en (.tuple #[iV (S.q.headD 1),iV 0]) [] ⟨_,[Wd b ({S with q:=S.q.tail,T:=S.T++ [⟨S.now,(3,y,z),wy,S.q.headD 1⟩],D:=GF S.D (3,y,z)}:Wst)],rfl,⟨by rw[hp_.1,hp_.2.1],by rw[i]⟩,W.B.t2⟩
 refine go [.v 11 1 (DR _ _ F)] ?_
 have hp_:=Ik (S:=S) (o:=(3,y,z)) hwy hT hn
 have i:C7 S (3,y,z) wy=({S with q:=S.q.tail,T:=S.T++ [⟨S.now,(3,y,z),wy,S.q.headD 1⟩]}:Wst):=hp_.2.2.trans (if_neg om)
 have X:=E.a.e.e.e.e.t8
 have Y:sat g _ (Wd b ({S with q:=S.q.tail,T:=S.T++ [⟨S.now,(3,y,z),wy,S.q.headD 1⟩]}:Wst)::_):=AY (i▸Gg hW15 (3,y,z) wy) X
 exact en (.tuple #[iV (S.q.headD 1),iV 0]) [] ⟨_,[Wd b ({S with q:=S.q.tail,T:=S.T++ [⟨S.now,(3,y,z),wy,S.q.headD 1⟩]}:Wst)],rfl,⟨by rw[hp_.1,hp_.2.1],by rw[i]⟩,Y.B.t2⟩
theorem gG(b:Nat)(S:Wst)(x y z wy:Int)(a:0≤z)(c:z≤4294967295):HQ 377 [pV b,.agg #[iV x,iV y,uV z],iV wy] [Wd b S] (.tuple #[Value.int .i64 (D3 S (x,y,z) wy),Value.int .i64 (DQ S (x,y,z) wy)]) [Wd b (C7 S (x,y,z) wy)]:=by
 by_cases h:CT (x,y,z)
 · by_cases hw:1≤wy∧wy≤3
   · by_cases hT:KR S (x,y,z)
     · by_cases hn:S.T.length<10000
       · rcases Nq h with d|d|d
         · have e:x=1:=d
           subst e
           exact pD b S y z a c h h.2.2.1 h.2.2.2.1 h.2.2.2.2 hT wy hw hn
         · have e:x=2:=d
           subst e
           exact pE b S y z a c h h.2.2.1 h.2.2.2.1 h.2.2.2.2 hT wy hw hn
         · have e:x=3:=d
           subst e
           exact pF b S y z a c h h.2.2.1 h.2.2.2.1 h.2.2.2.2 hT wy hw hn
       · exact Vr b S x y z a c h h.2.2.1 h.2.2.2.1 h.2.2.2.2 ⟨h.1,h.2.1⟩ hT wy hw om
     · exact Vq b S x y z a c h h.2.2.1 h.2.2.2.1 h.2.2.2.2 ⟨h.1,h.2.1⟩ hT wy hw
   · exact gF b S x y z a c h h.2.2.1 h.2.2.2.1 h.2.2.2.2 ⟨h.1,h.2.1⟩ wy om
 · exact gE b S x y z wy a c h
section
def sF{g w:World}{A:List AB}{b:Nat}{cs:List Value}{t:TypeId}(id i j off k:Nat)(hs:sat g w A)(hj:A[j]? =some (Cl b cs t):=by rfl)(hk:Nat.ble (off+k) cs.length=true:=by kernel_rfl):Iq w:=rd id i j off k hs hj hk
abbrev F256:List Bool:=List.replicate 256 false
def Ce(x:Bool):List Value:= [iV 0,iV 0,uV 0,iV 0,uV 0,iV 0,uV 0,iV 0,uV 0,.bool x]
theorem Nv:Enc 10 Ce:=⟨fun _=>rfl,fun x v hv=>by
 simp only[Ce,List.mem_cons,List.not_mem_nil,or_false] at hv
 rcases hv with rfl |rfl |rfl |rfl |rfl |rfl |rfl |rfl |rfl |rfl<;>rfl⟩
section
variable {a b : Value} {L : List Bool} {q k : Nat} {x y : Bool}
theorem EQ(hL:L.length=256):(a::b::fl Ce L).length=2562:=by
 rw[List.length_cons,List.length_cons,Dg Nv,hL]
theorem Y7(ha:a.oneCell'=true)(hb:b.oneCell'=true): ∀v∈(a::b::fl Ce L),v.oneCell'=true:=fun v hv=>by
 rcases List.mem_cons.1 hv with rfl |hv
 · exact ha
 · rcases List.mem_cons.1 hv with rfl |hv
   · exact hb
   · exact Aw Nv _ v hv
theorem Gz{j:Nat}{v:Value}(h:L[q]? =some x)(hv:(Ce x)[j]? =some v)(hk:k=2+q*10+j):(a::b::fl Ce L)[k]? =some v:=by
 subst hk
 rw[show 2+q*10+j=(q*10+j)+1+1 from by omega,List.getElem?_cons_succ,List.getElem?_cons_succ]
 exact Cq Nv h hv
theorem QE(a b:Value): ∀(ks:List (Nat×Value)) (cs:List Value),CL (a::b::cs) (ks.map fun q=>(2+q.1,q.2))=a::b::CL cs ks
 | [],_=>rfl
 |(k,v)::ks,cs=>by
  simp only[List.map_cons,CL]
  rw[show 2+k=k+1+1 from by omega,List.set_cons_succ,List.set_cons_succ]
  exact QE a b ks _
def xU(q:Nat)(y:Bool):List (Nat×Value):= [(2+q*10,iV 0),(2+q*10+1,iV 0),(2+q*10+2,uV 0),(2+q*10+3,iV 0),(2+q*10+4,uV 0),(2+q*10+5,iV 0),(2+q*10+6,uV 0),(2+q*10+7,iV 0),(2+q*10+8,uV 0),(2+q*10+9,.bool y)]
theorem pG(h:L[q]? =some x):CL (a::b::fl Ce L) (xU q y)=a::b::fl Ce (L.set q y):=by
 have h1:=O1 Nv h (y:=y) [(0,iV 0),(1,iV 0),(2,uV 0),(3,iV 0),(4,uV 0),(5,iV 0),(6,uV 0),(7,iV 0),(8,uV 0),(9,.bool y)] rfl rfl rfl
 rw[←h1]
 have h2:=QE a b ([(0,Value.int .i64 0),(1,iV 0),(2,uV 0),(3,iV 0),(4,uV 0),(5,iV 0),(6,uV 0),(7,iV 0),(8,uV 0),(9,.bool y)].map fun p=>(q*10+p.1,p.2)) (fl Ce L)
 rw[←h2]
 unfold xU
 simp only[List.map_cons,List.map_nil,Nat.add_assoc,Nat.add_zero]
theorem UR(h:L[q]? =some x)(hk:k=2+q*10):CL (a::b::fl Ce L) [(k,iV 0),(k+1,iV 0),(k+2,uV 0),(k+3,iV 0),(k+4,uV 0),(k+5,iV 0),(k+6,uV 0),(k+7,iV 0),(k+8,uV 0),(k+9,.bool y)]=a::b::fl Ce (L.set q y):=by
 subst hk
 exact pG h
theorem Y8(hL:L.length=256)(hq:q<256)(hk:k=2+q*10): ∀p∈ [(k,Value.int .i64 0),(k+1,iV 0),(k+2,uV 0),(k+3,iV 0),(k+4,uV 0),(k+5,iV 0),(k+6,uV 0),(k+7,iV 0),(k+8,uV 0),(k+9,.bool y)],p.1<(a::b::fl Ce L).length∧p.2.oneCell'=true:=fun p hp=>by
 rw[EQ hL]
 subst hk
 simp only[List.mem_cons,List.not_mem_nil,or_false] at hp
 rcases hp with rfl |rfl |rfl |rfl |rfl |rfl |rfl |rfl |rfl |rfl<;>exact⟨by dsimp only;omega,rfl⟩
end
theorem Mj: ∀n q:Nat,((List.replicate n false).set q true).set q false=List.replicate n false
 |0,_=>rfl
 |n+1,0=>rfl
 |n+1,q+1=>by rw[List.replicate_succ,List.set_cons_succ,List.set_cons_succ,Mj n q]
theorem Y9{q:Nat}:((List.replicate 256 false).set q true).set q false=List.replicate 256 false:=Mj 256 q
theorem ZA{q:Nat}(h:q<256):(List.replicate 256 false)[q]? =some false:=by rw[List.getElem?_replicate,if_pos h]
theorem Cu{q:Nat}(h:q<256):((List.replicate 256 false).set q true)[q]? =some true:=List.getElem?_set_self (by rw[List.length_replicate];exact h)
theorem GJ{q:Nat}{y:Bool}:((List.replicate 256 false).set q y).length=256:=by rw[List.length_set,List.length_replicate]
theorem ZB{v:Value}{m k:Nat}{H:List Value}(h0:H.length≤k)(h1:k<H.length+m):(H++List.replicate m v)[k]? =some v:=by
 rw[List.getElem?_append_right h0,List.getElem?_replicate,if_pos om]
theorem gH{v:Value}{m k:Nat}{H:List Value}(h0:H.length≤k)(h1:k<H.length+m):CL (H++List.replicate m v) [(k,v)]=H++List.replicate m v:=by
 simp only[CL]
 rw[List.set_append_right _ _ h0]
 congr 1
 apply List.ext_getElem?
 intro i
 rw[List.getElem?_set]
 split
 · rename_i e
   subst e
   rw[List.length_replicate,if_pos om,List.getElem?_replicate,if_pos om]
 · rfl
def KY(b:Nat):List Value:= [pV b]
theorem GK:Enc 1 KY:=⟨fun _=>rfl,fun x v hv=>by
 obtain rfl:=List.mem_singleton.1 hv
 rfl⟩
def sp(ps:List Nat)(j:Nat):Value:= .pointer ((ps[j]?).map fun b=>⟨b,0,none⟩)
theorem Fh{ps:List Nat}{j b:Nat}(h:ps[j]? =some b):sp ps j= .pointer (some ⟨b,0,none⟩):=by unfold sp;rw[h];rfl
theorem gJ{a0 a1 a2 a3 a4:Value}{ps:List Nat}{j k b:Nat}(h:ps[j]? =some b)(hj:j≤2)(hk:k=4+j): [a0,a1,a2,a3,sp ps 0,sp ps 1,sp ps 2,a4][k]? =some (.pointer (some ⟨b,0,none⟩)):=by
 subst hk
 have:j=0∨j=1∨j=2:=by omega
 rcases this with rfl |rfl |rfl<;>exact congrArg some (Fh h)
theorem US{P:Program}{t:TypeId}{v:Value}(hk:P.keyTypeAt 8 t=true)(hw:(match P.underlying t with |some (.array _ _)|some (.struct _)=>true|_=>false)=true)(hs:(keyOf P t v).isSome=true)(w:World):(Op.equal t v v).run P w= .ok true w:=by
 obtain⟨lx,hx⟩:=Option.isSome_iff_exists.1 hs
 obtain⟨r,hr,hi⟩:=run_equal_deep w (m:=8) om hk hw hx hx
 rw[hi.2 rfl] at hr
 exact hr
theorem Nw{P:Program}{n:Nat}{l:Fr}{o:Oper}{x y:Operand}{t:TypeId}{xs:Array Value}(ho:o.op= .binOp .eql t x y t)(hx:fe n l x= .agg xs)(hy:fe n l y= .agg xs)(hk:P.keyTypeAt 8 t=true)(hw:(match P.underlying t with |some (.array _ _)|some (.struct _)=>true|_=>false)=true)(hs:(keyOf P t (.agg xs)).isSome=true)(hg:P.eqGuardType P.depth t=false)(w:World):
  (execOp (fe n l) o).run P w= .ok (.value (bT)) w:=by
 have h:=US hk hw hs w
 simp[execOp,ho,hx,hy,go_sem,eqGuard,hg,binOp,h]
theorem gK{P:Program}{n:Nat}{l:Fr}{o:Oper}{x y:Operand}{t:TypeId}{xs:Array Value}(ho:o.op= .binOp .neq t x y t)(hx:fe n l x= .agg xs)(hy:fe n l y= .agg xs)(hk:P.keyTypeAt 8 t=true)(hw:(match P.underlying t with |some (.array _ _)|some (.struct _)=>true|_=>false)=true)(hs:(keyOf P t (.agg xs)).isSome=true)(hg:P.eqGuardType P.depth t=false)(w:World):
  (execOp (fe n l) o).run P w= .ok (.value (bF)) w:=by
 have h:=US hk hw hs w
 simp[execOp,ho,hx,hy,go_sem,eqGuard,hg,binOp,h]
theorem gL{P:Program}{n:Nat}{l:Fr}{o:Oper}{x y:Operand}{t:TypeId}{xs ys:Array Value}(ho:o.op= .binOp .eql t x y t)(hx:fe n l x= .agg xs)(hy:fe n l y= .agg ys)(hk:P.keyTypeAt 8 t=true)(hg:P.eqGuardType P.depth t=false)(fx:(Value.agg xs).formed P t=true)(fy:(Value.agg ys).formed P t=true)(L1 L2:List Lit)(h1:P.keyLits 8 t (Value.agg xs).cells.toList=some L1)(h2:P.keyLits 8 t (Value.agg ys).cells.toList=some L2)(hne:L1≠L2)(w:World):
  (execOp (fe n l) o).run P w= .ok (.value (bF)) w:=by
 obtain⟨r,hr,hi⟩:=run_equalIn_deep 9992 8 t hk w 8 8 (.agg xs) (.agg ys) L1 L2 fx fy h1 h2
 have hb:r=false:=by
  cases r with
  |false=>rfl
  |true=>exact absurd (hi.1 rfl) hne
 have h:(Op.equal t (.agg xs) (.agg ys)).run P w= .ok r w:=hr
 rw[hb] at h
 simp[execOp,ho,hx,hy,go_sem,eqGuard,hg,binOp,h]
theorem kZ{a b c d0 d1 d2 d3:Value}{j k:Nat}{s:Int}(hs:s=(j:Int))(hj:j≤3)(hk:k=3+j): [a,b,c,.bool (decide (0<s)),.bool (decide (1<s)),.bool (decide (2<s)),.bool (decide (3<s)),d0,d1,d2,d3][k]? =some (bF):=by
 subst hk
 have h:decide ((j:Int)<s)=false:=decide_eq_false om
 have:j=0∨j=1∨j=2∨j=3:=by omega
 rcases this with rfl |rfl |rfl |rfl<;>exact congrArg (fun q=>some (Value.bool q)) h
theorem ZC{a b c d e f i:Value}{j k:Nat}{s:Int}(hs:s=(j:Int))(hj:j≤3)(hk:k=3+j):CL [a,b,c,.bool (decide (0<s)),.bool (decide (1<s)),.bool (decide (2<s)),.bool (decide (3<s)),d,e,f,i] [(k,bT)]= [a,b,c,.bool (decide (0<s+1)),.bool (decide (1<s+1)),.bool (decide (2<s+1)),.bool (decide (3<s+1)),d,e,f,i]:=by
 subst hk
 subst hs
 have:j=0∨j=1∨j=2∨j=3:=by omega
 rcases this with rfl |rfl |rfl |rfl<;>rfl
theorem gM{a b c d e f i:Value}{j k:Nat}{s:Int}(hs:s=(j:Int))(hj:j≤3)(hk:k=7+j):CL [a,b,c,d,e,f,i,.bool (decide (0<s)),.bool (decide (1<s)),.bool (decide (2<s)),.bool (decide (3<s))] [(k,bT)]= [a,b,c,d,e,f,i,.bool (decide (0<s+1)),.bool (decide (1<s+1)),.bool (decide (2<s+1)),.bool (decide (3<s+1))]:=by
 subst hk
 subst hs
 have:j=0∨j=1∨j=2∨j=3:=by omega
 rcases this with rfl |rfl |rfl |rfl<;>rfl
theorem pH{a b c d0 d1 d2 d3 e0 e1 e2 e3:Value}{j k:Nat}(hj:j≤3)(hk:k=7+j): ∀p∈ [(k,Value.bool true)],p.1< [a,b,c,e0,e1,e2,e3,d0,d1,d2,d3].length∧p.2.oneCell'=true:=fun p hp=>by
 obtain rfl:=List.mem_singleton.1 hp
 exact⟨by show k<11;omega,rfl⟩
theorem lA{a b c d0 d1 d2 d3 e0 e1 e2 e3:Value}{j k:Nat}(hj:j≤3)(hk:k=3+j): ∀p∈ [(k,Value.bool true)],p.1< [a,b,c,e0,e1,e2,e3,d0,d1,d2,d3].length∧p.2.oneCell'=true:=fun p hp=>by
 obtain rfl:=List.mem_singleton.1 hp
 exact⟨by show k<11;omega,rfl⟩
theorem UT{P:Program}{f:FuncId}{args:List Value}{b i:Nat}{cs:List Value}{t:TypeId}{ps:List Nat}{Q:Value→Prop}(h:HT P f args [Cl b cs t] (fun v K=>Q v∧K= [Cl b cs t]))(hb:ps[i]? =some b):HT P f args [Bs cs t ps] (fun v K=>Q v∧K= [Bs cs t ps]):=by
 intro g w F hs
 refine(h g w (Bs cs t (ps.take i)::Bs cs t (ps.drop (i+1))::F) (Rx hb hs)).mono ?_
 rintro e w' ⟨v,K,rfl,⟨hQ,rfl⟩,h2⟩
 exact⟨v,_,rfl,⟨hQ,rfl⟩,Ry hb h2⟩
theorem GL{q d:Int}(z:Int)(hq:d≠q): ∀(k j:Nat),AJ q (List.replicate k (d,z)) j= []
 |0,_=>rfl
 |k+1,j=>by
  rw[List.replicate_succ,AJ,if_neg hq]
  exact GL z hq k (j+1)
theorem gN{a v:Value}{m k:Nat}(hv:v.oneCell'=true)(h1:k≤m): ∀p∈ [(k,v)],p.1<(a::List.replicate m v).length∧p.2.oneCell'=true:=fun p hp=>by
 obtain rfl:=List.mem_singleton.1 hp
 rw[List.length_cons,List.length_replicate]
 exact⟨by dsimp only;omega,hv⟩
theorem KZ(z:Int):(0:Int).tmod z=0:=Int.zero_tmod z
theorem Vs{P:Program}{g w:World}{L:List AB}{ds:List Deferred}{n:Nat}{l:Fr}{N:Act→World→Prop}{Q:Exit→Act→World→Prop}{o:Oper}{t e:Nat}{x:Operand}{a z:Value}{b m:Nat}{ty:Nat}(ho:o.op= .call {callee:= .builtin .clear,args:= #[x],argTypes:= #[t]})(hd:o.dst=none)
 (ht:P.underlying t=some (.slice e))(hi:(P.info? e).map (fun i=>(i.zero,i.size))=some (some z,1))(hz:z.cells= #[z])(c:z.oneCell'=true)(hm:0<m)(hs:sat g w (Cl b (a::List.replicate m z) ty::L))(hx:fe n l x= .slice (some ⟨b,1,none⟩) m m)
 (h: ∀w',sat g w' (Cl b (a::List.replicate m z) ty::L)→N (Ad ds n l) w'):OP P o (Ad ds n l) w N Q:=by
 refine⟨?_⟩
 have hb:w.heap[b]? =some (.cells (a::List.replicate m z).toArray ty (0,0)):=Ax (i:=0) hs rfl
 have hzc:(Builtin.zeroCells z.cells m).toList=List.replicate m z:=by
  rw[hz]
  simp[Builtin.zeroCells]
  apply List.ext_getElem
  · simp
  · intro i c h2
    simp[Nat.mod_one]
 cases hq':P.info? e with
 |none=>simp[hq'] at hi
 |some inf=>
  simp only[hq',Option.map_some,Option.some.injEq,Prod.mk.injEq] at hi
  have hst:=run_storeCells_at P b 1 ty (List.replicate m z) 0 (a::List.replicate m z).toArray w hb (by simp;omega) (fun u hu=>by rw[List.eq_of_mem_replicate hu];exact c)
  simp only[Nat.add_zero] at hst
  unfold Oper.wp
  rw[An]
  obtain⟨m',rfl⟩: ∃m',m=m'+1:=⟨m-1,by omega⟩
  have key:(execOp (fe n l) o).run P w= .ok (.value (.tuple #[])) (w.setRow b (a::List.replicate (m'+1) z).toArray):=by
   have e1:(List.take 1 (a::List.replicate (m'+1) z)++List.replicate (m'+1) z++List.drop (1+(List.replicate (m'+1) z).length) (a::List.replicate (m'+1) z))=a::List.replicate (m'+1) z:=by
    rw[List.length_replicate,List.drop_of_length_le (by simp;omega),List.append_nil]
    rfl
   rw[e1] at hst
   simp[execOp,ho,resolve,invoke,builtin,hx,Builtin.clear_,run_underlying ht,zeroValue,typeInfo,hq',hi.1,hzc,hst]
  rw[key,Oper.upon_value,hd]
  exact h _ (B0 hs ⟨rfl,rfl,rfl,Nat.le_refl _⟩ (setRow_heap w b _ _ ty _ hb) (fun j hj=>setRow_other w b j _ hj))
theorem ZD{P:Program}{g w:World}{L:List AB}{ds:List Deferred}{n:Nat}{l:Fr}{N:Act→World→Prop}{Q:Exit→Act→World→Prop}{o:Oper}{d t e sz:Nat}{x y:Operand}(ho:o.op= .call {callee:= .builtin .copy,args:= #[x,y],argTypes:= #[t,t]})(hd:o.dst=some d)(hn:Nat.blt d n=true)
 (ht:P.underlying t=some (.slice e))(hi:(P.info? e).map (·.size)=some sz){b o1 n1 c1 o2 c2:Nat}{cs:List Value}{ty:Nat}(hs:sat g w (Cl b cs ty::L))
 (hx:fe n l x= .slice (some ⟨b,o1,none⟩) n1 c1)(hy:fe n l y= .slice (some ⟨b,o2,none⟩) 0 c2)(hfit:o1≤cs.length)
 (h: ∀w',sat g w' (Cl b cs ty::L)→N (Ad ds n ((d,iV 0)::l)) w'):OP P o (Ad ds n l) w N Q:=
 cC ho hd hn ht hi hs hx hy 0 (Nat.zero_min _) [] (by rw[Nat.zero_mul];rfl) (fun j u hj=>by cases hj) (fun u hu=>by cases hu) (by rw[List.length_nil];omega) (fun w' a=>by
  rw[List.append_nil,List.length_nil,Nat.add_zero,List.take_append_drop] at a
  exact h w' a)
theorem Gi{A:List AM}{s:Nat}{g:Int}(h:By A=some (s,g)):Bn A=((s:Int),g,0)∧Ap A=A.set s (1,g)∧A[s]? =some (0,g)∧s<A.length:=by
 have b:=KM h
 unfold By at h
 have hl:=(List.getElem?_eq_some_iff.1 h).1
 have h3:(AJ 0 A 0).getD 0 (0,0)=(s,g):=getD_some h
 have a:=CQ hl
 rw[h3] at a
 exact⟨a.1,a.2,b,(List.getElem?_eq_some_iff.1 b).1⟩
theorem UU(q:Int): ∀(A:List AM) (k j:Nat) (z e u:Int),A[j]? =some (e,u)→e≠q→AJ q A k= []→AJ q (A.set j (q,z)) k= [(k+j,z)]
 | [],_,_,_,_,_,h,_,_=>by cases h
 |(e,u)::A,k,0,z,e',u',h,he,hn=>by
  simp only[List.getElem?_cons_zero,Option.some.injEq,Prod.mk.injEq] at h
  obtain⟨rfl,rfl⟩:=h
  rw[AJ,if_neg he] at hn
  rw[List.set_cons_zero,AJ,if_pos rfl,hn,Nat.add_zero]
 |(e,u)::A,k,j+1,z,e',u',h,he,hn=>by
  rw[List.getElem?_cons_succ] at h
  rw[AJ] at hn
  rw[List.set_cons_succ,AJ]
  split at hn
  · cases hn
  · rename_i e2
    rw[if_neg e2,UU q A (k+1) j z e' u' h he hn,Nat.add_right_comm,Nat.add_assoc]
theorem Il(q:Int): ∀(A:List AM) (k j:Nat) (z e u:Int),e≠q→AJ q A k= [(k+j,z)]→AJ q (A.set j (e,u)) k= []
 | [],_,_,_,_,_,_,h=>by cases h
 |(e,u)::A,k,0,z,e',u',he,hn=>by
  rw[List.set_cons_zero,AJ,if_neg he]
  rw[AJ] at hn
  split at hn
  · exact List.tail_eq_of_cons_eq hn
  · have a:((k+0,z):Nat×Int)∈AJ q A (k+1):=by rw[hn];exact List.mem_singleton.2 rfl
    obtain⟨i,hi⟩:=List.getElem?_of_mem a
    have:=(Eg hi).1
    omega
 |(e,u)::A,k,j+1,z,e',u',he,hn=>by
  rw[List.set_cons_succ,AJ]
  rw[AJ] at hn
  split at hn
  · have a:=congrArg (fun l:List (Nat×Int)=>l.map Prod.fst) hn
    simp only[List.map_cons,List.map_nil,List.cons.injEq] at a
    omega
  · rename_i e2
    rw[if_neg e2]
    exact Il q A (k+1) j z e' u' he (by rw[hn,Nat.add_right_comm,Nat.add_assoc])
theorem gO{A:List AM}{s:Nat}{g:Int}(h:By A=some (s,g))(h0:AJ 1 A 0= []):AJ 1 (Ap A) 0= [(s,g)]:=by
 obtain⟨_,h1,h2,_⟩:=Gi h
 rw[h1]
 have:=UU 1 A 0 s g 0 g h2 om h0
 rwa [Nat.zero_add] at this
theorem gP{A:List AM}{s:Nat}{g:Int}(h0:AJ 1 A 0= [(s,g)]):AJ 1 (Ak A s g) 0= []:=by
 have a:AJ 1 A 0= [(0+s,g)]:=by rw[h0,Nat.zero_add]
 unfold Ak
 split
 · exact Il 1 A 0 s g 0 (g+1) om a
 · exact Il 1 A 0 s g 2 g om a
theorem ZE{A:List AM}{s:Nat}{g:Int}(h0:AJ 1 A 0= [(s,g)]):A[s]? =some (1,g):=by
 have h1:(AJ 1 A 0)[0]? =some (s,g):=by rw[h0];rfl
 have:=(Eg h1).2
 rwa [Nat.sub_zero] at this
end
theorem EE{n:Nat}{l:Fr}{o:Oper}{x y:Operand}(a b c c1:Int)(ho:o.op= .binOp .neq 203 x y 203)(hx:fe n l x= .agg #[iV a,uV b])(hy:fe n l y= .agg #[iV c,uV c1])(h:a=c∧b=c1)(w:World):(execOp (fe n l) o).run prog w= .ok (.value (bF)) w:=by
 obtain⟨rfl,rfl⟩:=h
 simp[execOp,ho,hx,hy,go_sem]
theorem ZF(r:Nat)(nn:Int)(hb:Bool):IT prog 391 [pV r] 0 (fun _=> [iV 0,.agg #[iV 0,uV 0]]) [Cl r [iV nn,iV 0,uV 0,iV 0,uV 0,iV 0,uV 0,iV 0,uV 0,.bool hb] 234]:=by
 refine mH func391 ntmps391 fun g w0 R k_ J_ E_ hY h0=> ?_
 have a:sat g _ (J_ 0::_):=h0
 refine go [rd 0 1 1 1 8 a]<|DS 39<|go [.s 2 1]<|AS (.agg #[iV 0,uV 0]) (B4 (t:=232) (x:=Ot 6) (y:=Ot 7) (z:=0) (cs:= #[iV 0,uV 0,iV 0,uV 0,iV 0,uV 0,iV 0,uV 0]) kr underlying232 underlying203 2 kr kr kr 0 om dc (by rfl) _)<|nP 203 [iV 0,uV 0] a (fun _ _ i=> ?_)
 refine g0<|sA [iV 0,uV 0] i fun _ b=>go [.s 3 99999] ?_
 refine Wy 7<|go [rd 3 0 0 0 2 b,.s 3 2]<|AS (bF) (EE (x:=Ot 11) (y:=Ot 12) 0 0 0 0 kr kr kr ⟨rfl,rfl⟩ _)<|g0 ?_
 refine yN 3<|g0<|Bm<|go [.s 2 1]<|AS (.agg #[iV 0,uV 0]) (B4 (t:=232) (x:=Ot 6) (y:=Ot 7) (z:=1) (cs:= #[iV 0,uV 0,iV 0,uV 0,iV 0,uV 0,iV 0,uV 0]) kr underlying232 underlying203 2 kr kr kr 1 om dc (by rfl) _)<|nP 203 [iV 0,uV 0] b (fun _ _ j=> ?_)
 refine g0<|sA [iV 0,uV 0] j fun _ c=>go [.s 3 99999] ?_
 refine Wy 7<|go [rd 3 0 0 0 2 c,.s 3 2]<|AS (bF) (EE (x:=Ot 11) (y:=Ot 12) 0 0 0 0 kr kr kr ⟨rfl,rfl⟩ _)<|g0 ?_
 refine yN 3<|g0<|Bm<|go [.s 2 1]<|AS (.agg #[iV 0,uV 0]) (B4 (t:=232) (x:=Ot 6) (y:=Ot 7) (z:=2) (cs:= #[iV 0,uV 0,iV 0,uV 0,iV 0,uV 0,iV 0,uV 0]) kr underlying232 underlying203 2 kr kr kr 2 om dc (by rfl) _)<|nP 203 [iV 0,uV 0] c (fun _ _ k=> ?_)
 refine g0<|sA [iV 0,uV 0] k fun _ d=>go [.s 3 99999] ?_
 refine Wy 7<|go [rd 3 0 0 0 2 d,.s 3 2]<|AS (bF) (EE (x:=Ot 11) (y:=Ot 12) 0 0 0 0 kr kr kr ⟨rfl,rfl⟩ _)<|g0 ?_
 refine yN 3<|g0<|Bm<|go [.s 2 1]<|AS (.agg #[iV 0,uV 0]) (B4 (t:=232) (x:=Ot 6) (y:=Ot 7) (z:=3) (cs:= #[iV 0,uV 0,iV 0,uV 0,iV 0,uV 0,iV 0,uV 0]) kr underlying232 underlying203 2 kr kr kr 3 om dc (by rfl) _)<|nP 203 [iV 0,uV 0] d (fun _ _ l=> ?_)
 refine g0<|sA [iV 0,uV 0] l fun _ e=>go [.s 3 99999] ?_
 refine Wy 7<|go [rd 3 0 0 0 2 e,.s 3 2]<|AS (bF) (EE (x:=Ot 11) (y:=Ot 12) 0 0 0 0 kr kr kr ⟨rfl,rfl⟩ _)<|g0 ?_
 refine yN 3<|g0<|Bm<|g0<|up<|g0 ?_
 have m:=e.f.f.f.t7.t3
 have he_:0=0:=rfl
 exact en (.tuple #[]) [] ⟨⟨_,rfl⟩,.inl (he_▸m)⟩
theorem ZG(b n:Nat)(A:List AM)(s:Nat)(gn:Int)(hT:By A=some (s,gn)):HQ 231 [pV b] [Tb b n A] (.tuple #[.agg #[iV s,uV gn],iV 0]) [Tb b n (Ap A)]:=by
 have h:=Gb b n A
 rw[(Gi hT).1] at h
 exact h
theorem ZH(b n:Nat)(A:List AM)(s:Nat)(gn:Int)(hT:AJ 1 A 0= [(s,gn)]):HQ 382 [pV b,.agg #[iV s,uV gn]] [Tb b n A] (iV 0) [Tb b n (Ak A s gn)]:=by
 exact Hk b n A s (1,gn) (ZE hT) s gn ⟨rfl,rfl,rfl⟩
theorem Mk(b n:Nat)(A:List AM)(s:Nat)(gn:Int)(hT:AJ 1 A 0= [(s,gn)]):HQ 325 [pV b,.agg #[iV s,uV gn]] [Tb b n A] (iV 0) [Tb b n A]:=by
 exact GA b n A s (1,gn) (ZE hT) s gn ⟨rfl,rfl,rfl⟩
theorem Vt(b n:Nat)(A:List AM)(hT:AJ 1 A 0= []):HT prog 459 [pV b] [Tb b n A] (fun v K=> ∃p:Option Addr,∃c:Nat,v=.slice p 0 c∧K= [Tb b n A,Sl 203 2 p 0 c (fl He [])]):=by
 have h:=GB b n A
 rw[hT] at h
 exact h
theorem Vu(b n:Nat)(A:List AM)(s:Nat)(gn:Int)(hT:AJ 1 A 0= [(s,gn)]):HT prog 459 [pV b] [Tb b n A] (fun v K=> ∃p:Option Addr,∃c:Nat,v=.slice p 1 c∧K= [Tb b n A,Sl 203 2 p 1 c (fl He [(s,gn)])]):=by
 have h:=GB b n A
 rw[hT] at h
 exact h
theorem Ej(a b c:Nat):HQ 173 [pV a] [Cl a (pV b::iV c::fl Ce F256) 237] (bT) [Cl a (pV b::iV c::fl Ce F256) 237]:=by
 refine AC func173 ntmps173 fun g w0 R d=>go [rd 1 6 0 0 1 d] ?_
 exact AD _ [] d
theorem SS:HT prog 320 [.agg #[iV 0,iV 0,uV 0,iV 0,uV 0,iV 0,uV 0,iV 0,uV 0,bT]] [] (fun v K=> ∃a:Nat,v= .func (Fn.func 391) #[] #[pV a]∧K= [Cl a [iV 0,iV 0,uV 0,iV 0,uV 0,iV 0,uV 0,iV 0,uV 0,bT] 234]):=by
 refine AC func320 ntmps320 fun g w0 R h0=>g0<|nP 234 [iV 0,iV 0,uV 0,iV 0,uV 0,iV 0,uV 0,iV 0,uV 0,bT] h0 (fun a _ b=> ?_)
 refine g0 ?_
 exact en _ [] ⟨_,_,rfl,⟨a,rfl,rfl⟩,b⟩
theorem QF:HQ 230 [.agg #[iV 0,iV 0,uV 0,iV 0,uV 0,iV 0,uV 0,iV 0,uV 0,bT]] [] (iV 0) []:=by
 refine AC func230 ntmps230 fun g w0 R h0=>g0<|nP 234 [iV 0,iV 0,uV 0,iV 0,uV 0,iV 0,uV 0,iV 0,uV 0,bT] h0 (fun x _ j=> ?_)
 refine nP 29 [iV 0] j (fun k _ e=> ?_)
 refine go [rd 1 1 1 0 1 e,rd 1 5 1 0 1 e,rd 1 10 1 9 1 e,rd 1 13 1 0 1 e,rd 3 0 1 0 10 e]<|cP call320 SS e ?_
 rintro v K _ (⟨l,rfl,rfl⟩) m
 have o:=B3 m
 refine g0 ?_
 refine Rr (N:=0) (fun i rb_=>([(4,pV rb_),(3,iV 0),(25,.agg #[iV 0,uV 0]),(24,iV 0)]:Fr)) (fun i rb_ K=>K= [Cl rb_ [iV 0,uV 0] 203]) (fun i K=>K= []) (fun c _ K=>False) call391 (ZF l 0 true) rfl o ?_ ?_ ?_ ?_
 ·
  intro i_ hi_;exact absurd hi_ (Nat.not_lt_zero _)
 · intro i_ hi_;exact absurd hi_ (Nat.not_lt_zero _)
 ·
  rintro D22 y K_ ⟨rfl⟩ p
  have q:sat g _ (pt D22 (Obj.deferred (some []))::_):=p
  have s:=q.b.t5
  refine g0<|sA [iV 0] s fun _ t=>g0 ?_
  refine LM (iV 0) t.a.t5 (fun u f=> [rd 0 0 1 0 1 f]) (fun u f=> ?_) [iV 0] [(⟨k,0,none⟩,iV 0)]
  exact⟨_,_,rfl,⟨rfl,rfl⟩,f.d.t1⟩
 intro _ _ _ _ _ _ hf_;exact hf_.elim
theorem Mn:HQ 149 [iV 0,bT] [] (.tuple #[.agg #[iV 0,iV 0,uV 0,iV 0,uV 0,iV 0,uV 0,iV 0,uV 0,bT],iV 0]) []:=by
 refine AC func149 ntmps149 fun g w0 R h0=>g0<|nP 234 [iV 0,iV 0,uV 0,iV 0,uV 0,iV 0,uV 0,iV 0,uV 0,bF] h0 (fun _ _ f=> ?_)
 refine g0<|nP 234 [iV 0,iV 0,uV 0,iV 0,uV 0,iV 0,uV 0,iV 0,uV 0,bF] f (fun _ _ i=> ?_)
 refine sA [iV 0,iV 0,uV 0,iV 0,uV 0,iV 0,uV 0,iV 0,uV 0,bT] i fun _ c=>go [rd 2 0 0 0 10 c]<|AP call230 QF c fun _ d=> ?_
 have j:=d.a.t3
 refine go [rd 5 0 0 0 10 d]<|sA [iV 0,iV 0,uV 0,iV 0,uV 0,iV 0,uV 0,iV 0,uV 0,bT] j fun _ e=>g0 ?_
 exact AD _ [rd 0 0 0 0 10 e] e.b.t1
theorem ZI(b t n:Nat)(A:List AM)(s:Nat)(gn:Int)(hT:By A=some (s,gn))(_:0≤ -(n:Int)+256)(_:0≤(n:Int)-1)(_:0≤(n:Int)-(s:Int)-1):HQ 151 [pV b,iV 0,bT] [Cl b (pV t::iV n::fl Ce F256) 237,Tb t n A] (.tuple #[.agg #[iV s,uV gn],iV 0]) [Cl b (pV t::iV n::fl Ce (F256.set s true)) 237,Tb t n (Ap A)]:=by
 refine AC func151 ntmps151 fun g w0 R h0=>g0<|nP 203 [iV 0,uV 0] h0 (fun _ _ m=> ?_)
 have o:=m.a.t4
 refine g0<|AF call173 (Ej b t n) o fun _ p=>g0<|AP call149 Mn p fun _ u=>g0<|nP 234 [iV 0,iV 0,uV 0,iV 0,uV 0,iV 0,uV 0,iV 0,uV 0,bF] u (fun _ _ y=> ?_)
 refine sA [iV 0,iV 0,uV 0,iV 0,uV 0,iV 0,uV 0,iV 0,uV 0,bT] y fun _ j=> ?_
 have B:=j.c.t5
 refine go [rd 6 3 1 0 1 j]<|AF call231 (ZG t n A s gn hT) B fun _ C=>g0<|nP 203 [iV 0,uV 0] C (fun _ _ D=> ?_)
 refine sA [iV s,uV gn] D fun _ E=>g0<|dw (AE [0,1,2,3,4,5,6] (Tr.an 7 Tr.nil)) E fun _ f=>go [rd 9 2 0 0 1 f,rd 9 3 2 0 10 f,.s 9 6]<|lw (.pointer (some ⟨b,s*10+2,none⟩)) (fun _=>AA (x:=Ot 41) (i:=Ot 38) (b:=b) (off:=2) (z:=(s:Int)) kr underlying235 10 kr s kr kr om om (s*10+2) om _) ?_
 have F:=f.c.t6
 refine AH ?_
 refine Bc [(s*10+2,iV 0),(s*10+3,iV 0),(s*10+4,uV 0),(s*10+5,iV 0),(s*10+6,uV 0),(s*10+7,iV 0),(s*10+8,uV 0),(s*10+9,iV 0),(s*10+10,uV 0),(s*10+11,bT)] (cs':=(pV t::iV n::fl Ce (F256.set s true))) kr kr (Y8 (q:=s) List.length_replicate om om) (UR (ZA om) om) F ?_
 intro _ k
 refine⟨kd [],IK ?_⟩
 have G:=k.d.t6
 refine go [rd 10 0 1 0 2 k]<|sA [iV s,uV gn] G fun _ l=>g0 ?_
 exact AD (.tuple #[.agg #[iV s,uV gn],iV 0]) [rd 0 0 0 0 2 l] l.c.b.t6.e.b.b.t3
theorem Ek(a b c d:Nat):HQ 173 [pV a] [Cl a (pV c::iV d::fl Ce (F256.set b true)) 237] (bT) [Cl a (pV c::iV d::fl Ce (F256.set b true)) 237]:=by
 refine AC func173 ntmps173 fun g w0 R e=>go [rd 1 6 0 0 1 e] ?_
 exact AD _ [] e
theorem LT(c b d e f:Nat)(_:0≤ -(b:Int)+255):HQ 489 [.pointer (some ⟨c,b*10+2,none⟩),pV d] [Cl c (pV e::iV f::fl Ce (F256.set b true)) 237,Cl d [iV 0,iV 0,uV 0,iV 0,uV 0,iV 0,uV 0,iV 0,uV 0,bF] 234] (iV 0) [Cl c (pV e::iV f::fl Ce (F256.set b true)) 237,Cl d [iV 0,iV 0,uV 0,iV 0,uV 0,iV 0,uV 0,iV 0,uV 0,bT] 234]:=by
 refine AC func489 ntmps489 fun g w0 R i=> ?_
 have k:=i.a.t3
 refine go [.r 1 2 c (b*10+2) [iV 0,iV 0,uV 0,iV 0,uV 0,iV 0,uV 0,iV 0,uV 0,bT] ⟨AL i 0 rfl (Gz (j:=0) (Cu om) rfl om),AL i 0 rfl (Gz (j:=1) (Cu om) rfl om),AL i 0 rfl (Gz (j:=2) (Cu om) rfl om),AL i 0 rfl (Gz (j:=3) (Cu om) rfl om),AL i 0 rfl (Gz (j:=4) (Cu om) rfl om),AL i 0 rfl (Gz (j:=5) (Cu om) rfl om),AL i 0 rfl (Gz (j:=6) (Cu om) rfl om),AL i 0 rfl (Gz (j:=7) (Cu om) rfl om),AL i 0 rfl (Gz (j:=8) (Cu om) rfl om),AL i 0 rfl (Gz (j:=9) (Cu om) rfl om),trivial⟩]<|sA [iV 0,iV 0,uV 0,iV 0,uV 0,iV 0,uV 0,iV 0,uV 0,bT] k fun _ l=>g0 ?_
 exact AD _ [] l.a.t3
theorem ST(f d:Nat)(k:Int)(l j e:Nat)(m:List AM)(o:AJ 1 m 0= [(d,k)])(_:0≤(e:Int)-(d:Int)-1)(_:0≤ -(d:Int)+255):HQ 235 [pV f,.agg #[iV d,uV k],.func (Fn.func 489) #[] #[pV l]] [Cl l [iV 0,iV 0,uV 0,iV 0,uV 0,iV 0,uV 0,iV 0,uV 0,bF] 234,Cl f (pV j::iV e::fl Ce (F256.set d true)) 237,Tb j e m] (iV 0) [Cl l [iV 0,iV 0,uV 0,iV 0,uV 0,iV 0,uV 0,iV 0,uV 0,bT] 234,Cl f (pV j::iV e::fl Ce (F256.set d true)) 237,Tb j e m]:=by
 refine AC func235 ntmps235 fun g w0 R h0=>g0<|nP 203 [iV d,uV k] h0 (fun _ _ u=> ?_)
 have y:=u.b.t5
 refine g0<|AF call173 (Ek f d j e) y fun _ A=>g0<|dw (AE [0,1,2,3,4,5,6,7,8,9,10,11,12] Tr.nil) A fun _ p=>go [rd 3 1 1 0 1 p,.v 3 2 (oF ((d:Int)<0)),rd 3 5 1 0 1 p,rd 3 9 0 1 1 p,.v 3 10 (oF ((d:Int)≥(e:Int)))]<|dw (AE [0,1,2,3,4] (Tr.an 5 (AE [6,7] Tr.nil))) p fun _ q=> ?_
 have B:=q.c.t5
 refine go [rd 5 3 0 0 1 q,rd 5 4 1 0 2 q]<|BZ call325 (Mk j e m d k o) B fun _ C=>⟨kd [],?_⟩
 refine g0<|dw (AE [0,1,2,3,4,5,6] (Tr.an 7 (Tr.fl 8 Tr.nil))) C fun _ t=>go [rd 7 3 2 0 1 t,.s 7 6]<|lw (.pointer (some ⟨f,d*10+2,none⟩)) (fun _=>AA (x:=Ot 37) (i:=Ot 35) (b:=f) (off:=2) (z:=(d:Int)) kr underlying235 10 kr d kr kr om om (d*10+2) om _)<|FN call489 (LT f d l j e om) t.c.b.t5 fun _ D=>⟨kd [],?_⟩
 refine g0 ?_
 exact AD _ [] D.a.t5.d.c.c.c.t4
theorem gQ(b t n:Nat)(A:List AM)(s:Nat)(gn:Int)(hT:AJ 1 A 0= [(s,gn)])(_:0≤ -(n:Int)+256)(_:0≤(n:Int)-1)(_:0≤(n:Int)-(s:Int)-1):HQ 465 [pV b,.agg #[iV s,uV gn]] [Cl b (pV t::iV n::fl Ce (F256.set s true)) 237,Tb t n A] (.tuple #[.agg #[iV 0,iV 0,uV 0,iV 0,uV 0,iV 0,uV 0,iV 0,uV 0,bT],iV 0]) [Cl b (pV t::iV n::fl Ce (F256.set s true)) 237,Tb t n A]:=by
 refine AC func465 ntmps465 fun g w0 R h0=>g0<|nP 203 [iV s,uV gn] h0 (fun _ _ j=> ?_)
 refine nP 234 [iV 0,iV 0,uV 0,iV 0,uV 0,iV 0,uV 0,iV 0,uV 0,bF] j (fun _ _ k=> ?_)
 refine g0<|nP 234 [iV 0,iV 0,uV 0,iV 0,uV 0,iV 0,uV 0,iV 0,uV 0,bF] k (fun l _ a=> ?_)
 have m:=a.d.d.b.t6
 refine go [rd 2 1 2 0 2 a]<|IM call235 (ST b s gn l t n A hT om om) m fun _ f=> ?_
 have o:=f.c.t6
 refine go [rd 3 0 0 0 10 f]<|sA [iV 0,iV 0,uV 0,iV 0,uV 0,iV 0,uV 0,iV 0,uV 0,bT] o fun _ i=>g0 ?_
 exact AD _ [rd 0 0 0 0 10 i] i.c.c.t6.e.b.b.t3
theorem QG(e b j k c d:Nat)(i:List AM)(f:Int)(l:AJ 1 i 0= [(b,f)])(_:0≤ -(b:Int)+255):HQ 491 [.pointer (some ⟨e,b*10+2,none⟩),pV j,pV k] [Tb c d i,Cl e (pV c::iV d::fl Ce (F256.set b true)) 237,Cl k [iV b,uV f] 203,Cl j [pV e] 138] (iV 0) [Tb c d (Ak i b f),Cl e (pV c::iV d::fl Ce F256) 237,Cl k [iV b,uV f] 203,Cl j [pV e] 138]:=by
 refine AC func491 ntmps491 fun g w0 R h0=> ?_
 have o:=h0.a.t5
 refine g0 ?_
 refine AH ?_
 refine Bc [(b*10+2,iV 0),(b*10+3,iV 0),(b*10+4,uV 0),(b*10+5,iV 0),(b*10+6,uV 0),(b*10+7,iV 0),(b*10+8,uV 0),(b*10+9,iV 0),(b*10+10,uV 0),(b*10+11,bF)] (cs':=(pV c::iV d::fl Ce F256)) kr kr (Y8 (q:=b) GJ om om) ((UR (Cu om) om).trans (by rw[Y9])) o ?_
 intro _ p
 refine Gq<|g0<|dw (AE [0,1,2,3,4] (Tr.an 5 (Tr.fl 6 Tr.nil))) p fun _ m=> ?_
 have s:=m.a.t5
 refine go [rd 2 0 3 0 1 m,rd 2 3 0 0 1 m,rd 2 4 2 0 2 m]<|BZ call382 (ZH c d i b f l) s fun _ t=>⟨kd [],?_⟩
 refine g0 ?_
 exact AD _ [] t
theorem SU(f e:Nat)(k:Int)(o p l j:Nat)(m:List AM)(q:AJ 1 m 0= [(e,k)])(_:0≤(j:Int)-(e:Int)-1)(_:0≤ -(e:Int)+255):HQ 235 [pV f,.agg #[iV e,uV k],.func (Fn.func 491) #[] #[pV o,pV p]] [Cl p [iV e,uV k] 203,Cl o [pV f] 138,Cl f (pV l::iV j::fl Ce (F256.set e true)) 237,Tb l j m] (iV 0) [Cl p [iV e,uV k] 203,Cl o [pV f] 138,Cl f (pV l::iV j::fl Ce F256) 237,Tb l j (Ak m e k)]:=by
 refine AC func235 ntmps235 fun g w0 R h0=>g0<|nP 203 [iV e,uV k] h0 (fun _ _ A=> ?_)
 have B:=A.c.t6
 refine g0<|AF call173 (Ek f e l j) B fun _ C=>g0<|dw (AE [0,1,2,3,4,5,6,7,8,9,10,11,12] Tr.nil) C fun _ t=>go [rd 3 1 1 0 1 t,.v 3 2 (oF ((e:Int)<0)),rd 3 5 1 0 1 t,rd 3 9 0 1 1 t,.v 3 10 (oF ((e:Int)≥(j:Int)))]<|dw (AE [0,1,2,3,4] (Tr.an 5 (AE [6,7] Tr.nil))) t fun _ u=> ?_
 have D:=u.d.t6
 refine go [rd 5 3 0 0 1 u,rd 5 4 1 0 2 u]<|BZ call325 (Mk l j m e k q) D fun _ E=>⟨kd [],?_⟩
 refine g0<|dw (AE [0,1,2,3,4,5,6] (Tr.an 7 (Tr.fl 8 Tr.nil))) E fun _ y=>go [rd 7 3 2 0 1 y,.s 7 6]<|lw (.pointer (some ⟨f,e*10+2,none⟩)) (fun _=>AA (x:=Ot 37) (i:=Ot 35) (b:=f) (off:=2) (z:=(e:Int)) kr underlying235 10 kr e kr kr om om (e*10+2) om _)<|Rb call491 (QG f e o p l j m k q om) y.d.d.c.c.t6 fun _ F=>⟨kd [],?_⟩
 refine g0 ?_
 exact AD _ [] F.a.c.c.t6.e.d.d.d.d.t5
theorem ZJ(b t n:Nat)(A:List AM)(s:Nat)(gn:Int)(hT:AJ 1 A 0= [(s,gn)])(_:0≤ -(n:Int)+256)(_:0≤(n:Int)-1)(_:0≤(n:Int)-(s:Int)-1):HQ 468 [pV b,.agg #[iV s,uV gn]] [Cl b (pV t::iV n::fl Ce (F256.set s true)) 237,Tb t n A] (iV 0) [Cl b (pV t::iV n::fl Ce F256) 237,Tb t n (Ak A s gn)]:=by
 refine AC func468 ntmps468 fun g w0 R h0=>g0<|nP 138 [pV b] h0 (fun e _ f=> ?_)
 refine nP 203 [iV s,uV gn] f (fun i _ a=> ?_)
 refine go [rd 1 0 1 0 1 a,rd 1 1 0 0 2 a]<|IL call235 (SU b s gn e i t n A hT om om) a fun _ j=>g0 ?_
 exact AD _ [] j.c.c.t5.d.b.b.t3
end Go.Proofs.YtcgkoffnknpgjaaGreatDoor
