/- Walks, printed by my generator P:../out/o1.py. -/
import Derived.Test.YtcgkoffnknpgjaaGreatDoorBundle31
import Derived.Test.YtcgkoffnknpgjaaGreatDoorHq
import Derived.Test.YtcgkoffnknpgjaaGreatDoorBundle34
import Derived.Test.YtcgkoffnknpgjaaGreatDoorMen
import Derived.Test.YtcgkoffnknpgjaaGreatDoorYdr
namespace Go.Proofs.YtcgkoffnknpgjaaGreatDoor
set_option linter.unusedVariables false
set_option linter.unusedSimpArgs false
open Tryz
set_option maxHeartbeats 4000000
section
section
variable {a b c : Value} {V : List Int} {q k : Nat} {v u : Int}
theorem rget{V:List Int}{q:Nat}{v:Int}(h:V[q]? =some v):(fl eI V)[q]? =some (.int .i64 v):=by
 have:=fl_get eI_ok (j:=0) (v:= .int .i64 v) h rfl
 simpa using this
theorem rset: ∀(V:List Int) (q:Nat) (u:Int),(fl eI V).set q (.int .i64 u)=fl eI (V.set q u)
 | [],q,u=>rfl
 |x::V,0,u=>rfl
 |x::V,q+1,u=>by
  show (Value.int .i64 x)::(fl eI V).set q _=(Value.int .i64 x)::fl eI (V.set q u)
  rw[rset V q u]
theorem row3(h:V[q]? =some v)(hk:k=3+q):(a::b::c::fl eI V)[k]? =some (.int .i64 v):=by
 subst hk
 rw[Nat.add_comm,List.getElem?_cons_succ,List.getElem?_cons_succ,List.getElem?_cons_succ]
 exact rget h
theorem rlen1:(a::fl eI V).length=1+V.length:=by rw[List.length_cons,fl_len eI_ok];omega
theorem rlen3:(a::b::c::fl eI V).length=3+V.length:=by rw[List.length_cons,List.length_cons,List.length_cons,fl_len eI_ok];omega
theorem rput1(hk:k=1+q)(_:q<V.length):setL (a::fl eI V) [(k,iV u)]=a::fl eI (V.set q u):=by
 subst hk
 simp only[setL]
 rw[Nat.add_comm,List.set_cons_succ,rset]
theorem rput3(hk:k=3+q)(_:q<V.length):setL (a::b::c::fl eI V) [(k,iV u)]=a::b::c::fl eI (V.set q u):=by
 subst hk
 simp only[setL]
 rw[Nat.add_comm,List.set_cons_succ,List.set_cons_succ,List.set_cons_succ,rset]
end
def Pl(b:Nat)(X:Xs):Assn:=fun h=> ∃x:Nat×List Int,(X.length=64∧Bnd X∧Vals X x.2)∧star [Cl b (.pointer (some ⟨x.1,0,none⟩):: .int .i64 64:: .int .i64 1048576::fl eI x.2) 283,Tb x.1 64 (As X)] h
def Dk(b:Nat)(X:Xs):Assn:=fun h=> ∃x:Nat×List Int,(X.length=64∧Vals X x.2)∧star [Cl b (.pointer (some ⟨x.1,0,none⟩)::fl eI x.2) 286,Tb x.1 64 (As X)] h
def Lg(b:Nat)(T:List At):Assn:=fun h=> ∃x:Option Addr×Nat×Nat,T.length≤10000∧star [Cl b [.slice x.1 T.length x.2.1,.map (some x.2.2)] 117,Sl 50 6 x.1 T.length x.2.1 (fl eAt T),Ml 3 x.2.2 T.length] h
def Wd(b:Nat)(S:Wst):Assn:=fun h=> ∃x:Nat×Nat×Nat×Nat×Nat,WOk S∧star [Cl b [.nilIface,.iface 179 (.pointer (some ⟨x.1,0,none⟩)),.iface 182 (.pointer (some ⟨x.2.1,0,none⟩)),.iface 185 (.pointer (some ⟨x.2.2.1,0,none⟩)),.pointer (some ⟨x.2.2.2.1,0,none⟩),.pointer (some ⟨x.2.2.2.2,0,none⟩),iV S.now] 113,
 Fd x.1 64 S.F,Pl x.2.1 S.B,Dk x.2.2.1 S.D,Sr 288 x.2.2.2.1 S.q,Lg x.2.2.2.2 S.T] h
section
variable {g w : World} {L : List Assn} {b s : Nat} {X Y : Xs} {V : List Int} {S : Wst} {T : List At} {A : List Sl2} {p : Option Addr} {c m n : Nat}
theorem pl_open(h:sat g w (Pl b X::L)): ∃s V,(X.length=64∧Bnd X∧Vals X V)∧sat g w (Cl b (.pointer (some ⟨s,0,none⟩):: .int .i64 64:: .int .i64 1048576::fl eI V) 283::Tb s 64 (As X)::L):=by
 obtain⟨⟨s,V⟩,h1,h2⟩:=sat_open (X:=Nat×List Int) (p:=fun x=>X.length=64∧Bnd X∧Vals X x.2) (B:=fun x=>star [Cl b (.pointer (some ⟨x.1,0,none⟩):: .int .i64 64:: .int .i64 1048576::fl eI x.2) 283,Tb x.1 64 (As X)]) h (fun k hk=>hk)
 exact⟨s,V,h1,sat_unstar h2⟩
theorem pl_close(h1:X.length=64∧Bnd X∧Vals X V)(hA:A=As X)(h:sat g w (Cl b (.pointer (some ⟨s,0,none⟩):: .int .i64 64:: .int .i64 1048576::fl eI V) 283::Tb s 64 A::L)):sat g w (Pl b X::L):=by
 subst hA
 exact sat_imp (sat_star (K:= [Cl b (.pointer (some ⟨s,0,none⟩):: .int .i64 64:: .int .i64 1048576::fl eI V) 283,Tb s 64 (As X)]) h) fun k hk=>⟨(s,V),h1,hk⟩
theorem dk_open(h:sat g w (Dk b X::L)): ∃s V,(X.length=64∧Vals X V)∧sat g w (Cl b (.pointer (some ⟨s,0,none⟩)::fl eI V) 286::Tb s 64 (As X)::L):=by
 obtain⟨⟨s,V⟩,h1,h2⟩:=sat_open (X:=Nat×List Int) (p:=fun x=>X.length=64∧Vals X x.2) (B:=fun x=>star [Cl b (.pointer (some ⟨x.1,0,none⟩)::fl eI x.2) 286,Tb x.1 64 (As X)]) h (fun k hk=>hk)
 exact⟨s,V,h1,sat_unstar h2⟩
theorem dk_close(h1:X.length=64∧Vals X V)(hA:A=As X)(h:sat g w (Cl b (.pointer (some ⟨s,0,none⟩)::fl eI V) 286::Tb s 64 A::L)):sat g w (Dk b X::L):=by
 subst hA
 exact sat_imp (sat_star (K:= [Cl b (.pointer (some ⟨s,0,none⟩)::fl eI V) 286,Tb s 64 (As X)]) h) fun k hk=>⟨(s,V),h1,hk⟩
theorem lg_open(h:sat g w (Lg b T::L)): ∃p c m,T.length≤10000∧sat g w (Cl b [.slice p T.length c,.map (some m)] 117::Sl 50 6 p T.length c (fl eAt T)::Ml 3 m T.length::L):=by
 obtain⟨⟨p,c,m⟩,h1,h2⟩:=sat_open (X:=Option Addr×Nat×Nat) (p:=fun _=>T.length≤10000) (B:=fun x=>star [Cl b [.slice x.1 T.length x.2.1,.map (some x.2.2)] 117,Sl 50 6 x.1 T.length x.2.1 (fl eAt T),Ml 3 x.2.2 T.length]) h (fun k hk=>by
  obtain⟨x,h1,h2⟩:=hk
  exact⟨x,h1,h2⟩)
 exact⟨p,c,m,h1,sat_unstar h2⟩
theorem lg_close(h1:T.length≤10000)(hn:n=T.length)(h:sat g w (Cl b [.slice p n c,.map (some m)] 117::Sl 50 6 p n c (fl eAt T)::Ml 3 m n::L)):sat g w (Lg b T::L):=by
 subst hn
 exact sat_imp (sat_star (K:= [Cl b [.slice p T.length c,.map (some m)] 117,Sl 50 6 p T.length c (fl eAt T),Ml 3 m T.length]) h) fun k hk=>⟨(p,c,m),h1,hk⟩
theorem wd_open(h:sat g w (Wd b S::L)): ∃f p d s l,WOk S∧sat g w (Cl b [.nilIface,.iface 179 (.pointer (some ⟨f,0,none⟩)),.iface 182 (.pointer (some ⟨p,0,none⟩)),.iface 185 (.pointer (some ⟨d,0,none⟩)),pV s,pV l,iV S.now] 113::Fd f 64 S.F::Pl p S.B::Dk d S.D::Sr 288 s S.q::Lg l S.T::L):=by
 obtain⟨⟨f,p,d,s,l⟩,h1,h2⟩:=sat_open (X:=Nat×Nat×Nat×Nat×Nat) (p:=fun _=>WOk S) (B:=fun x=>star [Cl b [.nilIface,.iface 179 (.pointer (some ⟨x.1,0,none⟩)),.iface 182 (.pointer (some ⟨x.2.1,0,none⟩)),.iface 185 (.pointer (some ⟨x.2.2.1,0,none⟩)),.pointer (some ⟨x.2.2.2.1,0,none⟩),.pointer (some ⟨x.2.2.2.2,0,none⟩),iV S.now] 113,
  Fd x.1 64 S.F,Pl x.2.1 S.B,Dk x.2.2.1 S.D,Sr 288 x.2.2.2.1 S.q,Lg x.2.2.2.2 S.T]) h (fun k hk=>hk)
 exact⟨f,p,d,s,l,h1,sat_unstar h2⟩
theorem wd_close{f p d s l:Nat}(h1:WOk S)(h:sat g w (Cl b [.nilIface,.iface 179 (.pointer (some ⟨f,0,none⟩)),.iface 182 (.pointer (some ⟨p,0,none⟩)),.iface 185 (.pointer (some ⟨d,0,none⟩)),pV s,pV l,iV S.now] 113::Fd f 64 S.F::Pl p S.B::Dk d S.D::Sr 288 s S.q::Lg l S.T::L)):sat g w (Wd b S::L):=
 sat_imp (sat_star (K:= [Cl b [.nilIface,.iface 179 (.pointer (some ⟨f,0,none⟩)),.iface 182 (.pointer (some ⟨p,0,none⟩)),.iface 185 (.pointer (some ⟨d,0,none⟩)),pV s,pV l,iV S.now] 113,Fd f 64 S.F,Pl p S.B,Dk d S.D,Sr 288 s S.q,Lg l S.T]) h) fun k hk=>⟨(f,p,d,s,l),h1,hk⟩
theorem wd_ok{j:Nat}(h:sat g w L)(hj:L[j]? =some (Wd b S)):WOk S:=sat_use h hj fun _ ha _=>by
 obtain⟨x,h1,_⟩:=ha
 exact h1
end
end
theorem pvalid_cl(b s:Nat)(Y:List Value):HQ 171 [pV b] [Cl b ((pV s)::Y) 283] (.bool true) [Cl b ((pV s)::Y) 283]:=by
 refine hiS func171 ntmps171 fun g w0 R h0=>go [rd 1 6 0 0 1 h0] ?_
 exact enR _ [] h0
theorem pl_new{g w:World}{L:List Assn}{b s:Nat}{gn:Int}(h:sat g w (Cl b [pV s,iV 64,iV 1048576,iV 0,iV 0,iV 0,iV 0,iV 0,iV 0,iV 0,iV 0,iV 0,iV 0,iV 0,iV 0,iV 0,iV 0,iV 0,iV 0,iV 0,iV 0,iV 0,iV 0,iV 0,iV 0,iV 0,iV 0,iV 0,iV 0,iV 0,iV 0,iV 0,iV 0,iV 0,iV 0,iV 0,iV 0,iV 0,iV 0,iV 0,iV 0,iV 0,iV 0,iV 0,iV 0,iV 0,iV 0,iV 0,iV 0,iV 0,iV 0,iV 0,iV 0,iV 0,iV 0,iV 0,iV 0,iV 0,iV 0,iV 0,iV 0,iV 0,iV 0,iV 0,iV 0,iV 0,iV 0] 283::Tb s 64 (List.replicate 64 (0,gn))::L)):sat g w (Pl b (List.replicate 64 (0,gn,0))::L):=by
 have e:([pV s,iV 64,iV 1048576,iV 0,iV 0,iV 0,iV 0,iV 0,iV 0,iV 0,iV 0,iV 0,iV 0,iV 0,iV 0,iV 0,iV 0,iV 0,iV 0,iV 0,iV 0,iV 0,iV 0,iV 0,iV 0,iV 0,iV 0,iV 0,iV 0,iV 0,iV 0,iV 0,iV 0,iV 0,iV 0,iV 0,iV 0,iV 0,iV 0,iV 0,iV 0,iV 0,iV 0,iV 0,iV 0,iV 0,iV 0,iV 0,iV 0,iV 0,iV 0,iV 0,iV 0,iV 0,iV 0,iV 0,iV 0,iV 0,iV 0,iV 0,iV 0,iV 0,iV 0,iV 0,iV 0,iV 0,iV 0]:List Value)=(.pointer (some ⟨s,0,none⟩):: .int .i64 64:: .int .i64 1048576::fl eI (List.replicate 64 0)):=by kernel_rfl
 rw[e] at h
 exact pl_close (V:=List.replicate 64 0) ⟨List.length_replicate,rep_bnd,vals_new⟩ (as_rep 64 gn 0) h
theorem pnew_ht(gn:Int)(hgn:1≤gn∧gn≤4294967295):HT prog 70 [iV 64,iV 1048576,uV gn] [] (fun v K=> ∃b:Nat,v= .tuple #[pV b,iV 0]∧K= [Pl b (List.replicate 64 (0,gn,0))]):=by
 refine hiS func70 ntmps70 fun g w0 R h0=>go [.v 1 16 (oF (gn<1))]<|cP call67 (snew_ok 64 om gn om) h0 ?_
 rintro v K _ (⟨b10,rfl,rfl⟩) h12
 have h13:=ap1 h12
 refine g0<|nP 283 ([pV b10,iV 64,iV 1048576]++List.replicate 64 (iV 0)) h13 (fun r14 w15 h16=> ?_)
 refine g0 ?_
 have h17:sat g _ (Pl r14 (List.replicate 64 (0,gn,0))::_):=pl_new h16
 exact en (.tuple #[pV r14,iV 0]) [] ⟨_,_,rfl,⟨r14,rfl,rfl⟩,h17⟩
theorem row3_one{s:Nat}{y z:Int}{V:List Int}: ∀v∈(pV s::Value.int .i64 y::Value.int .i64 z::fl eI V),v.oneCell'=true:=fun v hv=>by
 rcases List.mem_cons.1 hv with rfl |hv
 · rfl
 · rcases List.mem_cons.1 hv with rfl |hv
   · rfl
   · rcases List.mem_cons.1 hv with rfl |hv
     · rfl
     · exact fl_one eI_ok V v hv
theorem pcopy_ht(b:Nat)(X:Xs):HT prog 107 [pV b] [Pl b X] (fun v K=> ∃b2:Nat,v=pV b2∧K= [Pl b X,Pl b2 X]):=by
 refine hiS func107 ntmps107 fun g w0 R h0=> ?_
 obtain⟨s10,V11,hP12,h13⟩:=pl_open h0
 have hb14:=tb_bd (j:=1) h13 rfl
 have hAl_:=hb14.1;have hok_:=hb14.2.2.2
 refine g0<|cl1 call171 (pvalid_cl b s10 ((iV 64)::(iV 1048576)::fl eI V11)) h13 fun _ h16=>go [.s 3 2]<|lwP (.agg ((pV s10)::(iV 64)::(iV 1048576)::fl eI V11).toArray) (law_loadRow (x:=Ot 8) kr 0 h16 rfl _ rfl underlying283 (by rw[rlen3,hP12.2.2.1];kernel_rfl) kr) ?_
 refine nP 283 ([.pointer none]++List.replicate 66 (iV 0)) h16 (fun r17 _ h19=> ?_)
 refine actG ?_
 refine an_storeRow (t:=283) (x:=Ot 3) (y:=Ot 9) (cs:=((pV s10)::(iV 64)::(iV 1048576)::fl eI V11)) kr kr h19 (by rw[rlen3,hP12.2.2.1];kernel_rfl) (by rw[rlen3,hP12.2.2.1];rfl) row3_one kr kr ?_
 intro _ h21
 refine nxB ?_
 have h23:=h21.b.t4
 refine go [rd 4 3 1 0 1 h21]<|cP call120 (scopy_ht s10 64 (As X)) h23 ?_
 rintro v K _ (⟨b22,rfl,rfl⟩) h25
 have h27:=(ap2 h25).b.t5
 refine g0 ?_
 refine actG ?_
 refine an_store [(0,pV b22)] (cs':=((pV b22)::(iV 64)::(iV 1048576)::fl eI V11)) kr kr (allq ⟨⟨by simp only[List.length_cons];omega,rfl⟩,trivial⟩) rfl h27 ?_
 intro w28 h29
 refine nxB<|g0 ?_
 have h31:sat g _ (Pl r17 X::_):=pl_close hP12 rfl h29.b.a.t5
 have h33:sat g _ (Pl b X::_):=pl_close hP12 rfl h31.a.b.t4
 exact en (pV r17) [] ⟨_,_,rfl,⟨r17,rfl,rfl⟩,h33⟩
theorem pinned_ht(b:Nat):HT prog 430 [pV b] [] (fun v K=> ∃c,v= .func (Fn.func 458) #[] #[pV c]∧K= [Cl c [pV b] 182]):=by
 refine hiS func430 ntmps430 fun g w0 R h0=>g0<|nP 182 [pV b] h0 (fun r10 _ h12=> ?_)
 refine g0 ?_
 exact en (.func (Fn.func 458) #[] #[pV r10]) [] ⟨_,_,rfl,⟨r10,rfl,rfl⟩,h12⟩
theorem pinned_it(c b:Nat)(X:Xs):IT prog 458 [pV c] ((inS 1 (As X) 0).length) (fun i=> [Value.agg #[Value.int .i64 2,Value.int .i64 ((slI X i:Nat):Int),Value.int .u32 (slG X i)],Value.int .i64 (vaA X (slI X i))]) [Cl c [pV b] 182,Pl b X]:=by
 refine it_in 34 (fun k_=>([(0,.func (Fn.yield k_) #[] #[]),(1,pV c)]:Fr)) func458 kr ntmps458 rfl (fun _=>rfl) ?_
 intro g w0 R k_ J_ E_ hY h0
 have h1:sat g _ (J_ 0::_):=h0
 change WP _ _ (CA f458 []) _ (mk 34 ([(0,.func (Fn.yield k_) #[] #[]),(1,pV c)]:Fr)) _
 refine ySq ?_
 refine ySq ?_
 refine yPl [0,1,2] ?_
 refine yBb [1,2] [(5,pV b)] [e2 0 [pV b]] [(0,⟨c,0,none⟩,pV b)] [] trivial (kC (sat_cell h1 1 rfl rfl) nC) ?_
 have h2:=h1.b.t4
 obtain⟨s3,V4,hP5,h6⟩:=pl_open h2
 have hb7:=tb_bd (j:=1) h6 rfl
 have hAl_:=hb7.1;have hok_:=hb7.2.2.2
 refine yA ?_
 refine yCl 6 call171 (pvalid_cl b s3 ((iV 64)::(iV 1048576)::fl eI V4)) h6 ?_
 rintro v K w8 (⟨rfl,rfl⟩) h9
 refine⟨_,rfl,?_⟩
 have h10:=ap1 h9
 refine yB0 [] [2] [(7,.bool false)] (.mk ?_)
 refine yK [(0,.func (Fn.yield k_) #[] #[]),(1,pV c),(7,.bool false)] fun lr11=> ?_
 refine yCf ?_
 refine ySk ?_
 refine ySq ?_
 refine yPl [0,1,2,3,4,5,6] ?_
 refine yBb [4,5,6] [(11,pV s3),(10,pV b),(9,pV b),(8,pV b)] [e2 0 [pV b],e0 1,e0 2,e2 3 [pV s3]] [(3,⟨b,0,none⟩,pV s3),(0,⟨c,0,none⟩,pV b)] [] trivial (kC (sat_cell h10 0 rfl rfl) (kC (sat_cell h10 3 rfl rfl) nC)) ?_
 have h14:=h10.a.t5
 refine yA ?_
 refine yCl 12 call459 (taken_ht s3 64 (As X)) h14 ?_
 rintro v K w15 (⟨p12,c13,rfl,rfl⟩) h16
 refine⟨_,rfl,?_⟩
 have h17:=ap2 h16
 refine yB0 [] [5,6] [(14,iV 0),(13,iV (((inS 1 (As X) 0).length:Nat):Int))] (.mk ?_)
 refine yK [(0,.func (Fn.yield k_) #[] #[]),(1,pV c),(12,.slice p12 ((inS 1 (As X) 0).length) c13),(13,iV (((inS 1 (As X) 0).length:Nat):Int)),(14,iV 0)] fun lr18=> ?_
 refine yBk 0 ?_
 have h19:=h17.b.t6
 have h20:sat g _ (Pl b X::_):=pl_close hP5 rfl h19
 have hl_:((inS 1 (As X) 0).length)≤64:=by have f:=inS_len 1 (As X) 0;omega
 have h21:=h20.c.c.t5
 refine gi_lp (x:=CA f458 [1,1,0,0]) kr (fun mz_ a w=> ∃i:Nat,∃lr:Fr,mz_=((inS 1 (As X) 0).length)-i∧(i≤((inS 1 (As X) 0).length))∧a=mk 34 (([(0,.func (Fn.yield k_) #[] #[]),(1,pV c),(12,.slice p12 ((inS 1 (As X) 0).length) c13),(13,iV (((inS 1 (As X) 0).length:Nat):Int)),(14,iV i)]:Fr)++lr)∧sat g w [J_ i,Cl c [pV b] 182,Pl b X,Sl 203 2 p12 ((inS 1 (As X) 0).length) c13 (fl eRf (inS 1 (As X) 0)),R]) (((inS 1 (As X) 0).length)-0) ⟨0,_,rfl,(Nat.zero_le _),(mk_live [(0,.func (Fn.yield k_) #[] #[]),(1,pV c),(12,.slice p12 ((inS 1 (As X) 0).length) c13),(13,iV (((inS 1 (As X) 0).length:Nat):Int)),(14,iV (0:Int))] ⟨rfl,rfl,rfl,rfl,(ov_int om),trivial⟩),h21⟩ ?_
 rintro m23 a24 w25 ⟨i,lr22,rfl,hi,rfl,h26⟩
 refine ySq ?_
 refine yPl [0] ?_
 by_cases c27:(i:Int)<(((inS 1 (As X) 0).length:Nat):Int)
 ·
  refine yBb [] [(15,.bool true)] [e1 0 (.bool true)] [] [(.bool (decide ((i:Int)<(((inS 1 (As X) 0).length:Nat):Int))),.bool true)] ⟨(ov_t om),trivial⟩ nC (.mk ?_)
  refine yK [(0,.func (Fn.yield k_) #[] #[]),(1,pV c),(12,.slice p12 ((inS 1 (As X) 0).length) c13),(13,iV (((inS 1 (As X) 0).length:Nat):Int)),(14,iV i),(15,.bool true)] fun lr28=> ?_
  refine ySq ?_
  refine yCt ?_
  refine ySk ?_
  refine ySq ?_
  refine yBk 1 ?_
  refine ySq ?_
  refine yPl [0,1,2,3] ?_
  obtain⟨b29,hp30⟩:=sl_ptr0 (j:=3) h26 rfl om
  refine plain_law (i:=0) 16 (.pointer (some ⟨b29,i*2,none⟩)) kr (law_indexSlP (o:=opA (RA f458 [1,1,0,0,1,1,0,0,0]) 0) (x:=Ot 12) (i:=Ot 14) (p:=p12) (b:=b29) (off:=0) (z:=(i:Int)) (len:=((inS 1 (As X) 0).length)) (cap:=c13) kr underlying392 2 kr i kr hp30 kr om om (i*2) om _) ?_
  have h31:=h26.c.t5
  have hl32:=fl_n eRf_ok dc h31
  have hx33:(inS 1 (As X) 0)[i]? =some (slI X i,slG X i):=by unfold slI slG;rw[List.getElem?_eq_getElem om,getD_some (List.getElem?_eq_getElem om)]
  have hs34:=sl_lt (X:=X) (i:=i) om;have hs34b:=hP5.1
  refine yBb [2,3] [(17,.agg #[iV ((slI X i:Nat):Int),uV (slG X i)])] [e2 1 [iV ((slI X i:Nat):Int),uV (slG X i)]] [(1,⟨b29,i*2,none⟩,iV ((slI X i:Nat):Int)),(1,⟨b29,i*2+1,none⟩,uV (slG X i))] [] trivial (kC (gvc 0 h31 rfl hp30 eRf_ok 0 (iV ((slI X i:Nat):Int)) hx33 (i*2)) (kC (gvc 0 h31 rfl hp30 eRf_ok 1 (uV (slG X i)) hx33 (i*2+1)) nC)) ?_
  refine yA ?_
  refine yNp 4 203 [iV 0,uV 0] h31 fun r35 w36 h37=> ?_
  refine yA ?_
  refine yS [(0,iV ((slI X i:Nat):Int)),(1,uV (slG X i))] [iV ((slI X i:Nat):Int),uV (slG X i)] h37 fun w38 h39=> ?_
  refine PO.mk ?_
  refine yK [(0,.func (Fn.yield k_) #[] #[]),(1,pV c),(4,pV r35),(12,.slice p12 ((inS 1 (As X) 0).length) c13),(13,iV (((inS 1 (As X) 0).length:Nat):Int)),(14,iV i)] fun lr40=> ?_
  refine ySq ?_
  refine gi_dry (id:=4) (ops:=RA f458 [1,1,0,0,1,1,0,0,1,0]) (Tr.fl 0 (Tr.fl 1 (Tr.fl 2 (Tr.fl 3 (Tr.fl 4 (Tr.fl 5 (Tr.fl 6 (Tr.fl 7 (Tr.fl 8 (Tr.fl 9 (Tr.fl 10 (Tr.fl 11 (Tr.fl 12 (Tr.an 13 (Tr.fl 14 Tr.nil))))))))))))))) kr kr kr kr (fun _ _ d _ _ h=>by cases d<;>exact h) h39 ?_
  intro w41 h42
  refine yr_batch (t:=(Tr.fl 11 (Tr.fl 12 (Tr.an 13 (Tr.fl 14 Tr.nil))))) [⟨0,[],none⟩,⟨1,[],none⟩,⟨2,[iV ((slI X i:Nat):Int)],none⟩,⟨3,[],none⟩,⟨4,[uV (slG X i)],none⟩,⟨5,[],none⟩,⟨6,[pV b],none⟩,⟨7,[],none⟩,⟨8,[iV ((slI X i:Nat):Int)],none⟩,⟨9,[],none⟩,⟨10,[],none⟩] (l':=([(28,.pointer (some ⟨b,3,none⟩)),(27,pV b),(26,iV ((slI X i:Nat):Int)),(25,pV r35),(24,pV b),(23,.agg #[iV 2,iV ((slI X i:Nat):Int),uV (slG X i)]),(22,uV (slG X i)),(21,.pointer (some ⟨r35,1,none⟩)),(20,iV ((slI X i:Nat):Int)),(19,pV r35),(18,.func (Fn.yield k_) #[] #[]),(0,.func (Fn.yield k_) #[] #[]),(1,pV c),(4,pV r35),(12,.slice p12 ((inS 1 (As X) 0).length) c13),(13,iV (((inS 1 (As X) 0).length:Nat):Int)),(14,iV i)]:Fr)++lr40) (pts':= [(8,⟨r35,0,none⟩,iV ((slI X i:Nat):Int)),(6,⟨c,0,none⟩,pV b),(4,⟨r35,1,none⟩,uV (slG X i)),(2,⟨r35,0,none⟩,iV ((slI X i:Nat):Int))]) (eqs:= []) kr trivial (AllC_cons (sat_cell h42 0 rfl rfl) (AllC_cons (sat_cell h42 3 rfl rfl) (AllC_cons (sat_cell h42 0 rfl rfl) (AllC_cons (sat_cell h42 0 rfl rfl) (AllC_nil _))))) ?_
  refine yr_law (i:=11) 29 (.pointer (some ⟨b,(slI X i)+3,none⟩)) kr (fun _=>law_indexArr (o:=opA (RA f458 [1,1,0,0,1,1,0,0,1,0]) 11) (x:=Ot 28) (i:=Ot 26) (b:=b) (off:=3) (z:=((slI X i:Nat):Int)) kr underlying268 1 kr (slI X i) kr kr om om ((slI X i)+3) om _) ?_
  have h43:=h42.d.t6
  obtain⟨s44,V45,hP46,h47⟩:=pl_open h43
  have hb48:=tb_bd (j:=1) h47 rfl
  have hAl_:=hb48.1;have hok_:=hb48.2.2.2
  obtain⟨x49,hx50⟩: ∃x:Int,V45[(slI X i)]? =some x:=⟨_,List.getElem?_eq_getElem (by rw[hP46.2.2.1];omega)⟩
  have hv51:=vals_at hP46.2.2 (sl_at (X:=X) (i:=i) om) hx50
  refine yr_batch (t:=(Tr.an 13 (Tr.fl 14 Tr.nil))) [⟨12,[iV x49],none⟩] (l':=([(30,iV x49),(29,.pointer (some ⟨b,(slI X i)+3,none⟩)),(28,.pointer (some ⟨b,3,none⟩)),(27,pV b),(26,iV ((slI X i:Nat):Int)),(25,pV r35),(24,pV b),(23,.agg #[iV 2,iV ((slI X i:Nat):Int),uV (slG X i)]),(22,uV (slG X i)),(21,.pointer (some ⟨r35,1,none⟩)),(20,iV ((slI X i:Nat):Int)),(19,pV r35),(18,.func (Fn.yield k_) #[] #[]),(0,.func (Fn.yield k_) #[] #[]),(1,pV c),(4,pV r35),(12,.slice p12 ((inS 1 (As X) 0).length) c13),(13,iV (((inS 1 (As X) 0).length:Nat):Int)),(14,iV i)]:Fr)++lr40) (pts':= [(12,⟨b,(slI X i)+3,none⟩,iV x49)]) (eqs:= []) kr trivial (AllC_cons (sat_cell h47 0 rfl (row3 hx50 om)) (AllC_nil _)) ?_
  have h52:sat g _ (Pl b X::_):=pl_close hP46 rfl h47
  have h53:=h52.d.d.t6
  refine yr_yield (d:=some 31) (k:=k_) (args:= [Value.agg #[iV 2,iV ((slI X i:Nat):Int),uV (slG X i)],iV x49]) (xa:=(fun i=> [Value.agg #[Value.int .i64 2,Value.int .i64 ((slI X i:Nat):Int),Value.int .u32 (slG X i)],Value.int .i64 (vaA X (slI X i))]) i) (S1:=fun w=>sat g w [J_ (i+1),Cl c [pV b] 182,Pl b X,Cl r35 [iV ((slI X i:Nat):Int),uV (slG X i)] 203,Sl 203 2 p12 ((inS 1 (As X) 0).length) c13 (fl eRf (inS 1 (As X) 0)),R]) (S2:=fun w=>sat g w [E_ i,Cl r35 [iV ((slI X i:Nat):Int),uV (slG X i)] 203,Sl 203 2 p12 ((inS 1 (As X) 0).length) c13 (fl eRf (inS 1 (As X) 0)),R]) kr kr kr kr kr (by show [Value.agg #[Value.int .i64 2,Value.int .i64 ((slI X i:Nat):Int),Value.int .u32 (slG X i)],Value.int .i64 (vaA X (slI X i))]=_;rw[←hv51]) (hY i om _ [Cl r35 [iV ((slI X i:Nat):Int),uV (slG X i)] 203,Sl 203 2 p12 ((inS 1 (As X) 0).length) c13 (fl eRf (inS 1 (As X) 0)),R] h53) ?_ ?_
  ·
   intro w54 h55
   refine⟨_,rfl,?_⟩
   have h56:sat g _ (J_ (i+1)::_):=h55
   have hlt57:=(om:i<((inS 1 (As X) 0).length))
   refine yD _ [(32,.bool false)] [e0 14] [] [] trivial nC ?_
   refine yK [(0,.func (Fn.yield k_) #[] #[]),(1,pV c),(12,.slice p12 ((inS 1 (As X) 0).length) c13),(13,iV (((inS 1 (As X) 0).length:Nat):Int)),(14,iV i),(32,.bool false)] fun lr58=> ?_
   refine yCf ?_
   refine ySk ?_
   refine yPl [0,1] ?_
   refine yBb [] [(14,iV ((i:Int)+1)),(33,iV ((i:Int)+1))] [e1 0 (iV ((i:Int)+1)),e0 1] [] [(iV (IntKind.wrap .i64 ((i:Int)+1)),iV ((i:Int)+1))] ⟨(ov_i64 om om om),trivial⟩ nC (.mk ?_)
   have h59:=h56.e.e.d.d.d.t6
   have h60:=h59.t5
   change ∃n',n'<_∧_
   refine⟨(((inS 1 (As X) 0).length)-(i+1)),by omega,(i+1),_,rfl,om,(mk_live [(0,.func (Fn.yield k_) #[] #[]),(1,pV c),(12,.slice p12 ((inS 1 (As X) 0).length) c13),(13,iV (((inS 1 (As X) 0).length:Nat):Int)),(14,iV (((i+1):Nat):Int))] ⟨rfl,rfl,rfl,rfl,(ov_int om),trivial⟩),h60⟩
  ·
   intro w61 h62
   refine⟨_,rfl,?_⟩
   have h63:sat g _ (E_ i::_):=h62
   have hlt64:=(om:i<((inS 1 (As X) 0).length))
   refine yD _ [(32,.bool true)] [e0 14] [] [] trivial nC ?_
   refine yK [(0,.func (Fn.yield k_) #[] #[]),(1,pV c),(12,.slice p12 ((inS 1 (As X) 0).length) c13),(13,iV (((inS 1 (As X) 0).length:Nat):Int)),(14,iV i),(32,.bool true)] fun lr65=> ?_
   refine yCt ?_
   refine yRt ?_
   repeat (first|simp only[Exit.inBlock]|simp only[Exit.then])
   refine hi_out [] (.tuple #[]) [] kr (by intro q hq;cases hq) ⟨⟨_,rfl⟩,?_⟩
   have h66:=h63.c.a.t4
   have h67:=h66.t2
   exact .inr ⟨i,om,h67⟩
 ·
  refine yBb [] [(15,.bool false)] [e1 0 (.bool false)] [] [(.bool (decide ((i:Int)<(((inS 1 (As X) 0).length:Nat):Int))),.bool false)] ⟨(ov_f om),trivial⟩ nC (.mk ?_)
  refine yK [(0,.func (Fn.yield k_) #[] #[]),(1,pV c),(12,.slice p12 ((inS 1 (As X) 0).length) c13),(13,iV (((inS 1 (As X) 0).length:Nat):Int)),(14,iV i),(15,.bool false)] fun lr68=> ?_
  refine ySq ?_
  refine yCf ?_
  refine yEx 0 ?_
  repeat (first|simp only[Exit.inBlock]|simp only[Exit.then])
  refine hi_outn [] (.tuple #[]) [] kr (by intro q hq;cases hq) ⟨⟨_,rfl⟩,?_⟩
  have h69:=h26.d.c.c.c.t5
  have h70:=h69.t4
  have he_:i=((inS 1 (As X) 0).length):=(by omega)
  exact .inl (he_▸h70)
theorem pl_bd{g w:World}{L:List Assn}{j b:Nat}{X:Xs}(h:sat g w L)(hj:L[j]? =some (Pl b X)):X.length=64∧Bnd X:=sat_use h hj fun _ ha _=>by
 obtain⟨x,h1,_⟩:=ha
 exact⟨h1.1,h1.2.1⟩
theorem pused_ht(b:Nat)(X:Xs):HQ 400 [pV b] [Pl b X] (iV (used X)) [Pl b X]:=by
 refine hiS func400 ntmps400 fun g w0 R h0=>g0<|nP 3 [iV 0] h0 (fun r10 _ h12=> ?_)
 refine sA [iV 0] h12 fun _ h14=>g0<|cP call430 (pinned_ht b) h14 ?_
 rintro v K _ (⟨c15,rfl,rfl⟩) h17
 have h18:=ap1 h17
 have hB_:=pl_bd (j:=2) h18 rfl;have hl_:((inS 1 (As X) 0).length)≤64:=by have d:=inS_len 1 (As X) 0;rw[as_len,hB_.1] at d;exact d
 have h19:=h18.a.t4
 refine g0 ?_
 refine rfS (N:=((inS 1 (As X) 0).length)) (fun i K=>K= [Cl r10 [iV (useT X i)] 3]) (fun c _ K=>False) call458 (pinned_it c15 b X) rfl h19 ?_ ?_ ?_
 ·
  rintro i hi22 lp_ w20 K_ G ⟨rfl⟩ h21
  have h23:sat g _ (Cl r10 [iV (useT X i)] 3::_):=h21
  have hu_:=useT_bd hB_.2 i om;have hv_:=vaA_bd hB_.2 (sl_at (X:=X) (i:=i) om)
  refine go [rd 4 0 0 0 1 h23,.v 4 2 (oIr ((useT X i)+(vaA X (slI X i))))]<|sA [iV ((useT X i)+(vaA X (slI X i)))] h23 fun w24 h25=>g0 ?_
  have h26:sat g _ (Cl r10 [iV (useT X (i+1))] 3::_):=sat_imp h25 (fun _ hh_=>by rw[useT_go om];exact hh_)
  exact rbN rfl h26
 ·
  rintro D27 w28 K_ ⟨rfl⟩ h29
  have h30:sat g _ (pt D27 (Obj.deferred (some []))::_):=h29
  refine go [rd 5 0 1 0 1 h30] ?_
  refine enD (iV (useT X ((inS 1 (As X) 0).length))) h30 (fun _ _=> []) (fun _ h31=> ?_) [] []
  exact⟨_,_,rfl,⟨by rw[useT_all],rfl⟩,(tk2 (sf1 (sf4 h31.c.t5)))⟩
 intro _ _ _ _ _ _ hf_;exact hf_.elim
theorem pall_ht(b:Nat)(X:Xs):HT prog 545 [pV b] [Pl b X] (fun v K=> ∃(p:Option Addr) (c:Nat),v= .slice p ((inS 1 (As X) 0).length) c∧K= [Pl b X,Sl 48 3 p ((inS 1 (As X) 0).length) c (fl eO (allK 2 X))]):=by
 refine hiS func545 ntmps545 fun g w0 R h0=>g0<|nP 514 [.slice none 0 0] h0 (fun r10 _ h12=> ?_)
 refine g0<|cP call430 (pinned_ht b) h12 ?_
 rintro v K w14 (⟨c13,rfl,rfl⟩) h15
 have h16:=ap1 h15
 have hB_:=pl_bd (j:=2) h16 rfl;have hl_:((inS 1 (As X) 0).length)≤64:=by have e:=inS_len 1 (As X) 0;rw[as_len,hB_.1] at e;exact e
 have hz_:(allK 2 X).take 0= []:=rfl
 have h17:sat g _ (Sl 48 3 none 0 0 (fl eO [])::_):=sl_nil 48 3 h16
 have h18:=h17.b.t5
 refine g0 ?_
 refine rfS2 (N:=((inS 1 (As X) 0).length)) (fun i rb_=>([(4,pV rb_),(8,iV (vaA X (slI X i))),(7,.agg #[iV 2,iV ((slI X i:Nat):Int),uV (slG X i)])]:Fr)) (fun i rb_ K=> ∃p:Option Addr,∃c:Nat,K= [Cl rb_ [iV 2,iV ((slI X i:Nat):Int),uV (slG X i)] 48,Cl r10 [.slice p i c] 514,Sl 48 3 p i c (fl eO ((allK 2 X).take i))]) (fun i K=> ∃p:Option Addr,∃c:Nat,K= [Cl r10 [.slice p i c] 514,Sl 48 3 p i c (fl eO ((allK 2 X).take i))]) (fun c _ K=>False) call458 (pinned_it c13 b X) ⟨none,0,rfl⟩ h18 ?_ ?_ ?_ ?_
 ·
  rintro i hi_ lp_ w19 K_ G ⟨p,c,rfl⟩ h20
  have h21:sat g _ (Cl r10 [.slice p i c] 514::_):=h20
  refine g0<|nP 48 [iV 0,iV 0,uV 0] h21 (fun r22 _ h24=> ?_)
  refine sA [iV 2,iV ((slI X i:Nat):Int),uV (slG X i)] h24 fun _ h26=>g0 ?_
  exact enA r22 ⟨p,c,rfl⟩ h26
 ·
  rintro i hi29 lp_ w27 rb_ K_ G ⟨p,c,rfl⟩ h28
  have h30:sat g _ (Cl rb_ [iV 2,iV ((slI X i:Nat):Int),uV (slG X i)] 48::_):=h28
  refine go [rd 4 0 1 0 1 h30,rd 4 1 0 0 3 h30]<|nG (fun q_=> .slice (some ⟨q_,0,none⟩) 1 1) 48 [iV 2,iV ((slI X i:Nat):Int),uV (slG X i)] h30 (fun r31 _ h33=>⟨kd [],?_⟩)
  have h34:=h33.c.t7
  refine actG ?_
  refine aA 12 3 (Ot 9) (Ot 11) (.agg #[iV 0,iV 0,uV 0]) p i c 1 1 (⟨r31,0,none⟩) 24 underlying514 h34 (fl eO [(2,((slI X i:Nat):Int),(slG X i))]) rfl (cell1 h34 rfl) (fl_one eO_ok _) (i+1) ?_
  intro p35 cap36 w37 h38
  have h39:sat g _ (Sl 48 3 p35 (i+1) cap36 (fl eO (((allK 2 X).take i)++ [(2,((slI X i:Nat):Int),(slG X i))]))::_):=sJ h38
  obtain⟨hn40,hn41⟩:=sl_le h39
  refine nxA<|sA [.slice p35 (i+1) cap36] h39.c.t7 fun w43 h44=>g0 ?_
  have h45:=h44.a.t7
  have h46:sat g w43 [Sl 48 3 p35 (i+1) cap36 (fl eO ((allK 2 X).take (i+1))),Cl r10 [.slice p35 (i+1) cap36] 514,Cl r31 [iV 2,iV ((slI X i:Nat):Int),uV (slG X i)] 48,Cl rb_ [iV 2,iV ((slI X i:Nat):Int),uV (slG X i)] 48,Cl c13 [pV b] 182,Pl b X,G]:=(show (((allK 2 X).take i)++ [(2,((slI X i:Nat):Int),(slG X i))])=((allK 2 X).take (i+1)) from allK_take om)▸h45
  exact rbN ⟨p35,cap36,rfl⟩ (tk5 h46.f.f.f.c.d.t7)
 ·
  rintro D49 w50 K_ ⟨p,c,rfl⟩ h51
  have h52:sat g _ (pt D49 (Obj.deferred (some []))::_):=h51
  have h54:sat g _ (Sl 48 3 p ((inS 1 (As X) 0).length) c (fl eO (allK 2 X))::_):=sat_imp h52.b.t6 (fun _ hh=>by rw[List.take_of_length_le (by rw[allK_len];exact Nat.le_refl _)] at hh;exact hh)
  refine go [rd 5 0 2 0 1 h54] ?_
  refine enD (.slice p ((inS 1 (As X) 0).length) c) h54.a.t6 (fun _ _=> []) (fun _ h56=> ?_) [] []
  exact⟨_,_,rfl,⟨p,c,rfl,rfl⟩,(tk3 (sf2 (sf2 (sf5 h56.a.d.t6))))⟩
 intro _ _ _ _ _ _ hf_;exact hf_.elim
theorem pin_ht(b:Nat)(X:Xs)(v:Int)(hv:1≤v∧v≤65536):HT prog 345 [pV b,iV v] [Pl b X] (fun r K=>r= .tuple #[.agg #[iV (pinO X v).1,iV (pinO X v).2.1,uV (pinO X v).2.2],iV (pinE X v)]∧K= [Pl b (pinX X v)]):=by
 refine hiS func345 ntmps345 fun g w0 R h0=>g0<|nP 48 [iV 0,iV 0,uV 0] h0 (fun r10 _ h12=> ?_)
 obtain⟨s14,V15,hP16,h17⟩:=pl_open h12.a.t3
 have hb18:=tb_bd (j:=1) h17 rfl
 have hAl_:=hb18.1;have hok_:=hb18.2.2.2
 refine g0<|cl1 call171 (pvalid_cl b s14 ((iV 64)::(iV 1048576)::fl eI V15)) h17 fun _ h20=>go [.v 3 1 (oF (v<1)),.v 3 4 (oF (v>65536))]<|dw (fls [0,2,4,5,6,7] (Tr.an 1 (fls [3,8,9] Tr.nil))) h20 fun w21 h22=> ?_
 have h23:sat g _ (Pl b X::_):=pl_close hP16 rfl h22
 refine go [rd 5 7 0 2 1 h22]<|cw1 call400 (pused_ht b X) h23 fun _ h25=> ?_
 have hu26:=pl_bd (j:=0) h25 rfl;have hu26b:=used_bd hu26.2;rw[hu26.1] at hu26b
 obtain⟨s27,V28,hP29,h30⟩:=pl_open h25
 have hb31:=tb_bd (j:=1) h30 rfl
 have hAl_:=hb31.1;have hok_:=hb31.2.2.2
 refine⟨kd [rd 0 7 0 2 1 h30],?_⟩
 refine go [.v 5 3 (oIr ((used X)+v)),.s 5 8] ?_
 by_cases c32:(used X)+v>1048576
 ·
  have h33:=h30.b.t4
  refine go [.v 5 8 (oT _ c32)]<|sA [iV 0,iV 0,uV 0] h33 fun w34 h35=>g0 ?_
  have hp_:=pin_much (X:=X) (v:=v) om
  have h37:sat g _ (Pl b X::_):=pl_close hP29 rfl h35.b.b.t4
  exact en (.tuple #[.agg #[iV 0,iV 0,uV 0],iV 4]) [rd 0 0 0 0 3 h35] ⟨_,[Pl b X],rfl,⟨by rw[hp_.1,hp_.2.1],by rw[hp_.2.2]⟩,h37.B.t2⟩
 have h39:=h30.a.t4
 refine go [.v 5 8 (oF _ c32),rd 7 3 0 0 1 h30]<|cl1 call231 (take_ht s27 64 (As X)) h39 fun _ h41=>g0<|nP 203 [iV 0,uV 0] h41 (fun r42 _ h44=> ?_)
 refine sA [iV ((takeV (As X)).1),uV ((takeV (As X)).2.1)] h44 fun _ h46=>go [.s 8 1] ?_
 by_cases c47:(takeV (As X)).2.2=0
 ·
  obtain⟨htk_,i_,g_,u_,hf_,hx_,hi_,hg_,hA_⟩:=take_free (X:=X) (v:=v) om
  have d:i_<64:=by have h_:=(List.getElem?_eq_some_iff.1 hx_).1;rw[hP29.1] at h_;exact h_
  refine go [.v 8 1 (qnF ((takeV (As X)).2.2) 0)]<|dw (fls [0,1,2,3,4,5,6] (Tr.an 7 Tr.nil)) h46 fun _ h49=>go [rd 10 2 0 0 1 h49,.s 10 6]<|lw (.pointer (some ⟨b,i_+3,none⟩)) (fun _=>law_indexArr (x:=Ot 48) (i:=Ot 45) (b:=b) (off:=3) (z:=((takeV (As X)).1)) kr underlying268 1 kr i_ kr kr om om (i_+3) om _) ?_
  have h50:=h49.b.t5
  refine actG ?_
  refine an_store [(i_+3,iV v)] (cs':=((pV s27)::(iV 64)::(iV 1048576)::fl eI (V28.set i_ v))) kr kr (allq ⟨⟨by rw[rlen3,hP29.2.2.1];omega,rfl⟩,trivial⟩) (rput3 om (by rw[hP29.2.2.1];omega)) h50 ?_
  intro _ h52
  refine⟨kd [],nxN ?_⟩
  have h53:=h52.c.t5
  refine go [rd 11 1 1 0 1 h52,rd 11 3 1 1 1 h52]<|sA [iV 2,iV ((takeV (As X)).1),uV ((takeV (As X)).2.1)] h53 fun w54 h55=>g0 ?_
  have hp_:=pin_ok (v:=v) (show ¬1048576<used X+v from by omega) hf_
  have h57:sat g _ (Pl b (pinX X v)::_):=pl_close (by rw[hp_.2.2];exact pl_set hP29 d om) (hA_.trans (by rw[hp_.2.2])) h55.c.b.t5
  exact en (.tuple #[.agg #[iV 2,iV ((takeV (As X)).1),uV ((takeV (As X)).2.1)],iV 0]) [rd 0 0 0 0 3 h55] ⟨_,_,rfl,⟨by rw[hp_.1,hp_.2.1,hi_,hg_],rfl⟩,h57.c.a.t2⟩
 have h59:=h46.c.t5
 refine go [.v 8 1 (qnT ((takeV (As X)).2.2) 0)]<|sA [iV 0,iV 0,uV 0] h59 fun w60 h61=>g0 ?_
 have ht_:=take_full (X:=X) om;have hp_:=pin_full (v:=v) (show ¬1048576<used X+v from by omega) ht_.1
 have h63:sat g _ (Pl b X::_):=pl_close hP29 ht_.2.2 h61.b.c.t5
 exact en (.tuple #[.agg #[iV 0,iV 0,uV 0],iV 4]) [rd 0 0 0 0 3 h61] ⟨_,[Pl b X],rfl,⟨by rw[hp_.1,hp_.2.1],by rw[hp_.2.2]⟩,h63.c.a.t2⟩
theorem pfind_ht(b:Nat)(X:Xs)(y z:Int)(q:Nat)(hat:(As X)[q]? =some (1,z))(hy:y=(q:Int)):HQ 480 [pV b,.agg #[iV 2,iV y,uV z]] [Pl b X] (.tuple #[.agg #[iV y,uV z],iV 0]) [Pl b X]:=by
 refine hiS func480 ntmps480 fun g w0 R h0=> ?_
 have hbd_:=pl_bd (j:=0) h0 rfl;have e:q<64:=by have h_:=(List.getElem?_eq_some_iff.1 hat).1;rw[as_len,hbd_.1] at h_;exact h_
 refine g0<|nP 48 [iV 2,iV y,uV z] h0 (fun r10 _ h12=> ?_)
 refine nP 203 [iV 0,uV 0] h12 (fun r13 _ h15=> ?_)
 refine go [rd 1 1 1 1 1 h15,rd 1 3 1 2 1 h15]<|nP 203 [iV 0,uV 0] h15 (fun r16 _ h18=> ?_)
 refine sA [iV y,uV z] h18 fun _ h20=> ?_
 obtain⟨s22,V23,hP24,h25⟩:=pl_open h20.c.t5
 have hb26:=tb_bd (j:=1) h25 rfl
 have hAl_:=hb26.1;have hok_:=hb26.2.2.2
 refine g0<|cl1 call171 (pvalid_cl b s22 ((iV 64)::(iV 1048576)::fl eI V23)) h25 fun _ h28=>go [rd 4 1 4 0 1 h28]<|dw (fls [0,1,2,3,4,5,6,7,8,9,10,11,12] Tr.nil) h28 fun _ h30=>go [rd 6 1 4 1 1 h30,.v 6 2 (oF (y<0)),rd 6 5 4 1 1 h30,rd 6 9 0 1 1 h30,.v 6 10 (oF (y≥64))]<|dw (fls [0,1,2,3,4] (Tr.an 5 (fls [6,7] Tr.nil))) h30 fun _ h32=> ?_
 have h33:=h32.a.t6
 refine go [rd 8 3 0 0 1 h32,rd 8 4 2 0 2 h32]<|cw1 call325 (check_ok s22 64 (As X) q (1,z) hat y z ⟨by omega,rfl,rfl⟩) h33 fun _ h35=>⟨kd [],?_⟩
 have h36:=h35.c.t6
 refine go [rd 10 0 2 0 2 h35]<|sA [iV y,uV z] h36 fun w37 h38=>g0 ?_
 have h40:sat g _ (Pl b X::_):=pl_close hP24 rfl h38.a.b.t6
 exact enR _ [rd 0 0 0 0 2 h38] h40.d.a.t2
theorem punpin_ht(b:Nat)(X:Xs)(y z:Int)(q:Nat)(hat:(As X)[q]? =some (1,z))(hy:y=(q:Int)):HQ 453 [pV b,.agg #[iV 2,iV y,uV z]] [Pl b X] (iV 0) [Pl b (giv X (2,y,z))]:=by
 refine hiS func453 ntmps453 fun g w0 R h0=> ?_
 have hbd_:=pl_bd (j:=0) h0 rfl;have d:q<64:=by have h_:=(List.getElem?_eq_some_iff.1 hat).1;rw[as_len,hbd_.1] at h_;exact h_
 refine g0<|nP 48 [iV 2,iV y,uV z] h0 (fun r10 _ h12=> ?_)
 have h13:=h12.a.t3
 refine go [rd 1 1 0 0 3 h12]<|cl1 call480 (pfind_ht b X y z q hat hy) h13 fun _ h15=>g0<|nP 203 [iV 0,uV 0] h15 (fun r16 _ h18=> ?_)
 refine sA [iV y,uV z] h18 fun _ h20=>g0<|dw (fls [0,1,2,3,4,5] (Tr.an 6 Tr.nil)) h20 fun _ h22=>go [rd 4 2 0 0 1 h22,.s 4 5]<|lw (.pointer (some ⟨b,q+3,none⟩)) (fun _=>law_indexArr (x:=Ot 20) (i:=Ot 18) (b:=b) (off:=3) (z:=y) kr underlying268 1 kr q kr kr om om (q+3) om _) ?_
 obtain⟨s24,V25,hP26,h27⟩:=pl_open h22.a.t4
 have hb28:=tb_bd (j:=1) h27 rfl
 have hAl_:=hb28.1;have hok_:=hb28.2.2.2
 refine actG ?_
 refine an_store [(q+3,iV 0)] (cs':=((pV s24)::(iV 64)::(iV 1048576)::fl eI (V25.set q 0))) kr kr (allq ⟨⟨by rw[rlen3,hP26.2.2.1];omega,rfl⟩,trivial⟩) (rput3 om (by rw[hP26.2.2.1];omega)) h27 ?_
 intro _ h30
 refine⟨kd [],nxN ?_⟩
 refine g0<|dw (fls [0,1,2,3,4] (Tr.an 5 (Tr.fl 6 Tr.nil))) h30 fun _ h32=> ?_
 have h33:=h32.a.t5
 refine go [rd 5 3 0 0 1 h32,rd 5 4 2 0 2 h32]<|cw1 call382 (give_ht s24 64 (As X) q (1,z) hat y z ⟨by omega,rfl,rfl⟩) h33 fun w34 h35=>⟨kd [],?_⟩
 refine g0 ?_
 have h37:sat g _ (Pl b (giv X (2,y,z))::_):=pl_close (pl_giv (o:=(2,y,z)) hP26 hy) (giveA_giv X (2,y,z) hy) h35.a.t5
 exact enR _ [] h37.c.a.t2
theorem dmade_cl(b s:Nat)(Y:List Value):HQ 172 [pV b] [Cl b ((pV s)::Y) 286] (.bool true) [Cl b ((pV s)::Y) 286]:=by
 refine hiS func172 ntmps172 fun g w0 R h0=>go [rd 1 6 0 0 1 h0] ?_
 exact enR _ [] h0
theorem dk_new{g w:World}{L:List Assn}{b s:Nat}{gn:Int}(h:sat g w (Cl b [pV s,iV 0,iV 0,iV 0,iV 0,iV 0,iV 0,iV 0,iV 0,iV 0,iV 0,iV 0,iV 0,iV 0,iV 0,iV 0,iV 0,iV 0,iV 0,iV 0,iV 0,iV 0,iV 0,iV 0,iV 0,iV 0,iV 0,iV 0,iV 0,iV 0,iV 0,iV 0,iV 0,iV 0,iV 0,iV 0,iV 0,iV 0,iV 0,iV 0,iV 0,iV 0,iV 0,iV 0,iV 0,iV 0,iV 0,iV 0,iV 0,iV 0,iV 0,iV 0,iV 0,iV 0,iV 0,iV 0,iV 0,iV 0,iV 0,iV 0,iV 0,iV 0,iV 0,iV 0,iV 0] 286::Tb s 64 (List.replicate 64 (0,gn))::L)):sat g w (Dk b (List.replicate 64 (0,gn,0))::L):=by
 have e:([pV s,iV 0,iV 0,iV 0,iV 0,iV 0,iV 0,iV 0,iV 0,iV 0,iV 0,iV 0,iV 0,iV 0,iV 0,iV 0,iV 0,iV 0,iV 0,iV 0,iV 0,iV 0,iV 0,iV 0,iV 0,iV 0,iV 0,iV 0,iV 0,iV 0,iV 0,iV 0,iV 0,iV 0,iV 0,iV 0,iV 0,iV 0,iV 0,iV 0,iV 0,iV 0,iV 0,iV 0,iV 0,iV 0,iV 0,iV 0,iV 0,iV 0,iV 0,iV 0,iV 0,iV 0,iV 0,iV 0,iV 0,iV 0,iV 0,iV 0,iV 0,iV 0,iV 0,iV 0,iV 0]:List Value)=(.pointer (some ⟨s,0,none⟩)::fl eI (List.replicate 64 0)):=by kernel_rfl
 rw[e] at h
 exact dk_close (V:=List.replicate 64 0) ⟨List.length_replicate,vals_new⟩ (as_rep 64 gn 0) h
theorem dk_bd{g w:World}{L:List Assn}{j b:Nat}{X:Xs}(h:sat g w L)(hj:L[j]? =some (Dk b X)):X.length=64:=sat_use h hj fun _ ha _=>by
 obtain⟨x,h1,_⟩:=ha
 exact h1.1
theorem lnew_ht(gn:Int)(hgn:1≤gn∧gn≤4294967295):HT prog 71 [iV 64,uV gn] [] (fun v K=> ∃b:Nat,v= .tuple #[pV b,iV 0]∧K= [Dk b (List.replicate 64 (0,gn,0))]):=by
 refine hiS func71 ntmps71 fun g w0 R h0=>g0<|cP call67 (snew_ok 64 om gn om) h0 ?_
 rintro v K _ (⟨b10,rfl,rfl⟩) h12
 have h13:=ap1 h12
 refine g0<|nP 286 ([pV b10]++List.replicate 64 (iV 0)) h13 (fun r14 w15 h16=> ?_)
 refine g0 ?_
 have h17:sat g _ (Dk r14 (List.replicate 64 (0,gn,0))::_):=dk_new h16
 exact en (.tuple #[pV r14,iV 0]) [] ⟨_,_,rfl,⟨r14,rfl,rfl⟩,h17⟩
theorem lspan_ht(t:Int)(ht:1≤t∧t≤1048576):HQ 360 [iV t] [] (.bool true) []:=by
 refine hiS func360 ntmps360 fun g w0 R h0=>go [.v 1 1 (oT (t≥1)),.v 1 4 (oT (t≤1048576))] ?_
 exact enR _ [] h0
theorem ltime_ht(t:Int)(ht:0≤t∧t≤1099511627776):HQ 361 [iV t] [] (.bool true) []:=by
 refine hiS func361 ntmps361 fun g w0 R h0=>go [.v 1 1 (oT (t≥0)),.v 1 4 (oT (t≤1099511627776))] ?_
 exact enR _ [] h0
theorem lend_over(t now:Int)(ht:1≤t∧t≤1048576)(hn:1099511627776-t<now):HQ 363 [iV t,iV now] [] (.tuple #[iV 0,iV 17]) []:=by
 refine hiS func363 ntmps363 fun g w0 R h0=>go [.v 1 2 (oI (1099511627776-t) (-t+1099511627776)),.v 1 3 (oT (now> -t+1099511627776))] ?_
 exact enR _ [] h0
theorem lend_ok(t now:Int)(ht:1≤t∧t≤1048576)(h0:0≤now)(hn: ¬1099511627776-t<now):HQ 363 [iV t,iV now] [] (.tuple #[iV (now+t),iV 0]) []:=by
 refine hiS func363 ntmps363 fun g w0 R h0=>go [.v 1 2 (oI (1099511627776-t) (-t+1099511627776)),.v 1 3 (oF (now> -t+1099511627776)),.v 3 2 (oIr (now+t))] ?_
 exact enR _ [] h0
theorem lref_ht(x y z:Int):HQ 404 [.agg #[iV x,iV y,uV z]] [] (.agg #[iV y,uV z]) []:=by
 refine hiS func404 ntmps404 fun g w0 R h0=>g0<|nP 48 [iV x,iV y,uV z] h0 (fun _ _ h12=> ?_)
 refine nP 203 [iV 0,uV 0] h12 (fun _ _ h15=> ?_)
 refine go [rd 1 1 1 1 1 h15,rd 1 3 1 2 1 h15]<|sA [iV y,uV z] h15 fun _ h17=>g0 ?_
 exact enR _ [rd 0 0 0 0 2 h17] h17.b.t1
theorem lcopy_ht(b:Nat)(X:Xs):HT prog 108 [pV b] [Dk b X] (fun v K=> ∃b2:Nat,v=pV b2∧K= [Dk b X,Dk b2 X]):=by
 refine hiS func108 ntmps108 fun g w0 R h0=> ?_
 obtain⟨s10,V11,hP12,h13⟩:=dk_open h0
 have hb14:=tb_bd (j:=1) h13 rfl
 have hAl_:=hb14.1;have hok_:=hb14.2.2.2
 have h15:sat g w0 [Cl b (List.replicate 0 (pV s10)++ [pV s10,iV (V11.getD 0 0),iV (V11.getD 1 0),iV (V11.getD 2 0),iV (V11.getD 3 0),iV (V11.getD 4 0),iV (V11.getD 5 0),iV (V11.getD 6 0),iV (V11.getD 7 0),iV (V11.getD 8 0),iV (V11.getD 9 0),iV (V11.getD 10 0),iV (V11.getD 11 0),iV (V11.getD 12 0),iV (V11.getD 13 0),iV (V11.getD 14 0),iV (V11.getD 15 0),iV (V11.getD 16 0),iV (V11.getD 17 0),iV (V11.getD 18 0),iV (V11.getD 19 0),iV (V11.getD 20 0),iV (V11.getD 21 0),iV (V11.getD 22 0),iV (V11.getD 23 0),iV (V11.getD 24 0),iV (V11.getD 25 0),iV (V11.getD 26 0),iV (V11.getD 27 0),iV (V11.getD 28 0),iV (V11.getD 29 0),iV (V11.getD 30 0),iV (V11.getD 31 0),iV (V11.getD 32 0),iV (V11.getD 33 0),iV (V11.getD 34 0),iV (V11.getD 35 0),iV (V11.getD 36 0),iV (V11.getD 37 0),iV (V11.getD 38 0),iV (V11.getD 39 0),iV (V11.getD 40 0),iV (V11.getD 41 0),iV (V11.getD 42 0),iV (V11.getD 43 0),iV (V11.getD 44 0),iV (V11.getD 45 0),iV (V11.getD 46 0),iV (V11.getD 47 0),iV (V11.getD 48 0),iV (V11.getD 49 0),iV (V11.getD 50 0),iV (V11.getD 51 0),iV (V11.getD 52 0),iV (V11.getD 53 0),iV (V11.getD 54 0),iV (V11.getD 55 0),iV (V11.getD 56 0),iV (V11.getD 57 0),iV (V11.getD 58 0),iV (V11.getD 59 0),iV (V11.getD 60 0),iV (V11.getD 61 0),iV (V11.getD 62 0),iV (V11.getD 63 0)]) 286,Tb s10 64 (As X),R]:=by have h_:=h13;rw[vlit hP12.2.1] at h_;exact h_
 refine g0<|cl1 call172 (dmade_cl b s10 [iV (V11.getD 0 0),iV (V11.getD 1 0),iV (V11.getD 2 0),iV (V11.getD 3 0),iV (V11.getD 4 0),iV (V11.getD 5 0),iV (V11.getD 6 0),iV (V11.getD 7 0),iV (V11.getD 8 0),iV (V11.getD 9 0),iV (V11.getD 10 0),iV (V11.getD 11 0),iV (V11.getD 12 0),iV (V11.getD 13 0),iV (V11.getD 14 0),iV (V11.getD 15 0),iV (V11.getD 16 0),iV (V11.getD 17 0),iV (V11.getD 18 0),iV (V11.getD 19 0),iV (V11.getD 20 0),iV (V11.getD 21 0),iV (V11.getD 22 0),iV (V11.getD 23 0),iV (V11.getD 24 0),iV (V11.getD 25 0),iV (V11.getD 26 0),iV (V11.getD 27 0),iV (V11.getD 28 0),iV (V11.getD 29 0),iV (V11.getD 30 0),iV (V11.getD 31 0),iV (V11.getD 32 0),iV (V11.getD 33 0),iV (V11.getD 34 0),iV (V11.getD 35 0),iV (V11.getD 36 0),iV (V11.getD 37 0),iV (V11.getD 38 0),iV (V11.getD 39 0),iV (V11.getD 40 0),iV (V11.getD 41 0),iV (V11.getD 42 0),iV (V11.getD 43 0),iV (V11.getD 44 0),iV (V11.getD 45 0),iV (V11.getD 46 0),iV (V11.getD 47 0),iV (V11.getD 48 0),iV (V11.getD 49 0),iV (V11.getD 50 0),iV (V11.getD 51 0),iV (V11.getD 52 0),iV (V11.getD 53 0),iV (V11.getD 54 0),iV (V11.getD 55 0),iV (V11.getD 56 0),iV (V11.getD 57 0),iV (V11.getD 58 0),iV (V11.getD 59 0),iV (V11.getD 60 0),iV (V11.getD 61 0),iV (V11.getD 62 0),iV (V11.getD 63 0)]) h15 fun _ h17=>g0<|dw (fls [0,1,2,3,5,6,7,8] (Tr.an 4 (Tr.fl 9 (Tr.an 10 (Tr.fl 11 Tr.nil))))) h17 fun _ h19=> ?_
 have h21:=h19.a.t3
 refine go [rd 3 3 0 0 1 h19,rd 3 8 0 1 64 h19]<|cG call120 (scopy_ht s10 64 (As X)) h21 ?_
 rintro v K _ (⟨b20,rfl,rfl⟩) h23
 have h24:=ap2 h23
 refine⟨kd [rd 0 8 2 1 64 h24],?_⟩
 refine g0<|nG (fun q_=>pV q_) 286 (List.replicate 0 (pV b20)++ [pV b20,iV (V11.getD 0 0),iV (V11.getD 1 0),iV (V11.getD 2 0),iV (V11.getD 3 0),iV (V11.getD 4 0),iV (V11.getD 5 0),iV (V11.getD 6 0),iV (V11.getD 7 0),iV (V11.getD 8 0),iV (V11.getD 9 0),iV (V11.getD 10 0),iV (V11.getD 11 0),iV (V11.getD 12 0),iV (V11.getD 13 0),iV (V11.getD 14 0),iV (V11.getD 15 0),iV (V11.getD 16 0),iV (V11.getD 17 0),iV (V11.getD 18 0),iV (V11.getD 19 0),iV (V11.getD 20 0),iV (V11.getD 21 0),iV (V11.getD 22 0),iV (V11.getD 23 0),iV (V11.getD 24 0),iV (V11.getD 25 0),iV (V11.getD 26 0),iV (V11.getD 27 0),iV (V11.getD 28 0),iV (V11.getD 29 0),iV (V11.getD 30 0),iV (V11.getD 31 0),iV (V11.getD 32 0),iV (V11.getD 33 0),iV (V11.getD 34 0),iV (V11.getD 35 0),iV (V11.getD 36 0),iV (V11.getD 37 0),iV (V11.getD 38 0),iV (V11.getD 39 0),iV (V11.getD 40 0),iV (V11.getD 41 0),iV (V11.getD 42 0),iV (V11.getD 43 0),iV (V11.getD 44 0),iV (V11.getD 45 0),iV (V11.getD 46 0),iV (V11.getD 47 0),iV (V11.getD 48 0),iV (V11.getD 49 0),iV (V11.getD 50 0),iV (V11.getD 51 0),iV (V11.getD 52 0),iV (V11.getD 53 0),iV (V11.getD 54 0),iV (V11.getD 55 0),iV (V11.getD 56 0),iV (V11.getD 57 0),iV (V11.getD 58 0),iV (V11.getD 59 0),iV (V11.getD 60 0),iV (V11.getD 61 0),iV (V11.getD 62 0),iV (V11.getD 63 0)]) h24 (fun r25 w26 h27=>⟨kd [],?_⟩)
 refine g0 ?_
 have h28:sat g w26 [Cl r25 ((pV b20)::fl eI V11) 286,Tb s10 64 (As X),Tb b20 64 (As X),Cl b (List.replicate 0 (pV s10)++ [pV s10,iV (V11.getD 0 0),iV (V11.getD 1 0),iV (V11.getD 2 0),iV (V11.getD 3 0),iV (V11.getD 4 0),iV (V11.getD 5 0),iV (V11.getD 6 0),iV (V11.getD 7 0),iV (V11.getD 8 0),iV (V11.getD 9 0),iV (V11.getD 10 0),iV (V11.getD 11 0),iV (V11.getD 12 0),iV (V11.getD 13 0),iV (V11.getD 14 0),iV (V11.getD 15 0),iV (V11.getD 16 0),iV (V11.getD 17 0),iV (V11.getD 18 0),iV (V11.getD 19 0),iV (V11.getD 20 0),iV (V11.getD 21 0),iV (V11.getD 22 0),iV (V11.getD 23 0),iV (V11.getD 24 0),iV (V11.getD 25 0),iV (V11.getD 26 0),iV (V11.getD 27 0),iV (V11.getD 28 0),iV (V11.getD 29 0),iV (V11.getD 30 0),iV (V11.getD 31 0),iV (V11.getD 32 0),iV (V11.getD 33 0),iV (V11.getD 34 0),iV (V11.getD 35 0),iV (V11.getD 36 0),iV (V11.getD 37 0),iV (V11.getD 38 0),iV (V11.getD 39 0),iV (V11.getD 40 0),iV (V11.getD 41 0),iV (V11.getD 42 0),iV (V11.getD 43 0),iV (V11.getD 44 0),iV (V11.getD 45 0),iV (V11.getD 46 0),iV (V11.getD 47 0),iV (V11.getD 48 0),iV (V11.getD 49 0),iV (V11.getD 50 0),iV (V11.getD 51 0),iV (V11.getD 52 0),iV (V11.getD 53 0),iV (V11.getD 54 0),iV (V11.getD 55 0),iV (V11.getD 56 0),iV (V11.getD 57 0),iV (V11.getD 58 0),iV (V11.getD 59 0),iV (V11.getD 60 0),iV (V11.getD 61 0),iV (V11.getD 62 0),iV (V11.getD 63 0)]) 286,R]:=by rw[vlit hP12.2.1];exact h27
 have h30:sat g _ (Dk r25 X::_):=dk_close hP12 rfl h28.b.a.t5
 have h32:sat g w26 [Cl b ((pV s10)::fl eI V11) 286,Dk r25 X,Tb s10 64 (As X),R]:=by rw[vlit hP12.2.1];exact h30.b.t4
 have h34:sat g _ (Dk b X::_):=dk_close hP12 rfl h32.b.a.t4
 exact en (pV r25) [] ⟨_,_,rfl,⟨r25,rfl,rfl⟩,h34⟩
theorem grant_ht(b:Nat)(X:Xs)(t now:Int)(ht:1≤t∧t≤1048576)(hn:0≤now∧now≤1099511627776):HT prog 346 [pV b,iV t,iV now] [Dk b X] (fun r K=>r= .tuple #[.agg #[iV (gntO X t now).1,iV (gntO X t now).2.1,uV (gntO X t now).2.2],iV (gntE X t now)]∧K= [Dk b (gntX X t now)]):=by
 refine hiS func346 ntmps346 fun g w0 R h0=>g0<|nP 48 [iV 0,iV 0,uV 0] h0 (fun r10 _ h12=> ?_)
 obtain⟨s14,V15,hP16,h17⟩:=dk_open h12.a.t3
 have hb18:=tb_bd (j:=1) h17 rfl
 have hAl_:=hb18.1;have hok_:=hb18.2.2.2
 refine g0<|cl1 call172 (dmade_cl b s14 (fl eI V15)) h17 fun _ h20=>g0<|cl0 call360 (lspan_ht t om) h20 fun _ h22=>g0<|cl0 call361 (ltime_ht now om) h22 fun _ h24=>g0 ?_
 by_cases c25:1099511627776-t<now
 ·
  refine cl0 call363 (lend_over t now om om) h24 fun _ h27=> ?_
  have h28:=h27.b.t4
  refine g0<|sA [iV 0,iV 0,uV 0] h28 fun w29 h30=>g0 ?_
  have hp_:=gnt_over (X:=X) (t:=t) (now:=now) om
  have h32:sat g _ (Dk b X::_):=dk_close hP16 rfl h30.b.b.t4
  exact en (.tuple #[.agg #[iV 0,iV 0,uV 0],iV 17]) [rd 0 0 0 0 3 h30] ⟨_,[Dk b X],rfl,⟨by rw[hp_.1,hp_.2.1],by rw[hp_.2.2]⟩,h32.B.t2⟩
 refine cl0 call363 (lend_ok t now om om om) h24 fun _ h35=> ?_
 have h36:=h35.a.t4
 refine go [rd 8 3 0 0 1 h35]<|cl1 call231 (take_ht s14 64 (As X)) h36 fun _ h38=>g0<|nP 203 [iV 0,uV 0] h38 (fun r39 _ h41=> ?_)
 refine sA [iV ((takeV (As X)).1),uV ((takeV (As X)).2.1)] h41 fun _ h43=>go [.s 9 1] ?_
 by_cases c44:(takeV (As X)).2.2=0
 ·
  obtain⟨htk_,i_,g_,u_,hf_,hx_,hi_,hg_,hA_⟩:=take_free (X:=X) (v:=now+t) om
  have d:i_<64:=by have h_:=(List.getElem?_eq_some_iff.1 hx_).1;rw[hP16.1] at h_;exact h_
  refine go [.v 9 1 (qnF ((takeV (As X)).2.2) 0)]<|dw (fls [0,1,2,3,4,5,6] (Tr.an 7 Tr.nil)) h43 fun _ h46=>go [rd 11 2 0 0 1 h46,.s 11 6]<|lw (.pointer (some ⟨b,i_+1,none⟩)) (fun _=>law_indexArr (x:=Ot 53) (i:=Ot 50) (b:=b) (off:=1) (z:=((takeV (As X)).1)) kr underlying284 1 kr i_ kr kr om om (i_+1) om _) ?_
  have h47:=h46.b.t5
  refine actG ?_
  refine an_store [(i_+1,iV (now+t))] (cs':=((pV s14)::fl eI (V15.set i_ (now+t)))) kr kr (allq ⟨⟨by rw[rlen1,hP16.2.1];omega,rfl⟩,trivial⟩) (rput1 om (by rw[hP16.2.1];omega)) h47 ?_
  intro _ h49
  refine⟨kd [],nxN ?_⟩
  have h50:=h49.c.t5
  refine go [rd 12 1 1 0 1 h49,rd 12 3 1 1 1 h49]<|sA [iV 3,iV ((takeV (As X)).1),uV ((takeV (As X)).2.1)] h50 fun w51 h52=>g0 ?_
  have hp_:=gnt_ok (t:=t) (now:=now) (show ¬1099511627776-t<now from by omega) hf_
  have h54:sat g _ (Dk b (gntX X t now)::_):=dk_close (by rw[hp_.2.2];exact dk_set hP16 d) (hA_.trans (by rw[hp_.2.2])) h52.c.b.t5
  exact en (.tuple #[.agg #[iV 3,iV ((takeV (As X)).1),uV ((takeV (As X)).2.1)],iV 0]) [rd 0 0 0 0 3 h52] ⟨_,_,rfl,⟨by rw[hp_.1,hp_.2.1,hi_,hg_],rfl⟩,h54.c.a.t2⟩
 have h56:=h43.c.t5
 refine go [.v 9 1 (qnT ((takeV (As X)).2.2) 0)]<|sA [iV 0,iV 0,uV 0] h56 fun w57 h58=>g0 ?_
 have ht_:=take_full (X:=X) om;have hp_:=gnt_full (t:=t) (now:=now) (show ¬1099511627776-t<now from by omega) ht_.1;have e:=ht_.2.1
 have h60:sat g _ (Dk b X::_):=dk_close hP16 ht_.2.2 h58.b.c.t5
 exact en (.tuple #[.agg #[iV 0,iV 0,uV 0],iV ((takeV (As X)).2.2)]) [rd 0 0 0 0 3 h58] ⟨_,[Dk b X],rfl,⟨by rw[hp_.1,hp_.2.1,e],by rw[hp_.2.2]⟩,h60.c.a.t2⟩
theorem return1_ht(b s:Nat)(V:List Int)(hV:V.length=64)(c1 c2:Nat)(a:Option Addr)(X:Xs)(y z:Int)(q:Nat)(hat:(As X)[q]? =some (1,z))(hy:y=(q:Int)):HQ 481 [.pointer a,pV c1,pV c2] [Cl b ((pV s)::fl eI V) 286,Tb s 64 (As X),Cl c1 [pV b] 185,Cl c2 [iV 3,iV y,uV z] 48] (iV 0) [Cl b ((pV s)::fl eI V) 286,Tb s 64 (giveA (As X) q z),Cl c1 [pV b] 185,Cl c2 [iV 3,iV y,uV z] 48]:=by
 refine hiS func481 ntmps481 fun g w0 R h0=>g0<|dw (fls [0,1,2,3,4] (Tr.an 5 (Tr.an 6 (Tr.fl 7 Tr.nil)))) h0 fun _ h11=>go [rd 1 0 2 0 1 h11,rd 1 3 0 0 1 h11,rd 1 4 3 0 3 h11]<|cw0 call404 (lref_ht 3 y z) h11 fun _ h13=>⟨kd [rd 0 3 0 0 1 h13,rd 0 0 2 0 1 h13],?_⟩
 refine cw1 call382 (give_ht s 64 (As X) q (1,z) hat y z ⟨by omega,rfl,rfl⟩) h13.a.t5 fun _ h16=>⟨kd [],?_⟩
 refine g0 ?_
 exact enR _ [] h16.a.t5
theorem dwith_g(b c1 c2:Nat)(X:Xs)(y z:Int)(q:Nat)(hat:(As X)[q]? =some (1,z))(hy:y=(q:Int))(hz:1≤z∧z≤4294967295):HQ 359 [pV b,.agg #[iV 3,iV y,uV z],.bool true,.func (Fn.func 481) #[] #[pV c1,pV c2]] [Dk b X,Cl c1 [pV b] 185,Cl c2 [iV 3,iV y,uV z] 48] (iV 0) [Dk b (giv X (3,y,z)),Cl c1 [pV b] 185,Cl c2 [iV 3,iV y,uV z] 48]:=by
 refine hiS func359 ntmps359 fun g w0 R h0=> ?_
 have hbd_:=dk_bd (j:=0) h0 rfl;have e:q<64:=by have h_:=(List.getElem?_eq_some_iff.1 hat).1;rw[as_len,hbd_] at h_;exact h_
 refine g0<|nP 48 [iV 3,iV y,uV z] h0 (fun r10 _ h12=> ?_)
 obtain⟨s14,V15,hP16,h17⟩:=dk_open h12.a.t5
 have hb18:=tb_bd (j:=1) h17 rfl
 have hAl_:=hb18.1;have hok_:=hb18.2.2.2
 refine g0<|cl1 call172 (dmade_cl b s14 (fl eI V15)) h17 fun _ h20=>go [rd 3 4 2 0 1 h20,rd 3 8 2 0 3 h20]<|cl0 call273 (couter_ok 3 y z om om om) h20 fun _ h22=>g0<|dw (fls [0,1,2,3,4] (Tr.an 5 (Tr.an 6 (Tr.fl 7 Tr.nil)))) h22 fun _ h24=>go [rd 5 3 0 0 1 h24,rd 5 4 2 0 3 h24]<|cw0 call404 (lref_ht 3 y z) h24 fun _ h26=>⟨kd [rd 0 3 0 0 1 h26],?_⟩
 refine cw1 call325 (check_ok s14 64 (As X) q (1,z) hat y z ⟨by omega,rfl,rfl⟩) h26.a.t6 fun _ h29=>⟨kd [],?_⟩
 refine g0<|dw (fls [0,1,2,3,4,5,6] (Tr.an 7 (Tr.fl 8 Tr.nil))) h29 fun _ h31=>go [rd 8 3 2 1 1 h31,.s 8 6]<|lw (.pointer (some ⟨b,q+1,none⟩)) (fun _=>law_indexArr (x:=Ot 42) (i:=Ot 40) (b:=b) (off:=1) (z:=y) kr underlying284 1 kr q kr kr om om (q+1) om _)<|cw4 call481 (return1_ht b s14 V15 hP16.2.1 c1 c2 (some ⟨b,q+1,none⟩) X y z q hat hy) h31.d.d.b.c.t6 fun w33 h34=>⟨kd [],?_⟩
 refine g0 ?_
 have h35:sat g _ (Dk b (giv X (3,y,z))::_):=dk_close (dk_giv hP16) (giveA_giv X (3,y,z) hy) h34
 exact enR _ [] h35.D.t4
theorem dreturn_ht(b:Nat)(X:Xs)(y z:Int)(q:Nat)(hat:(As X)[q]? =some (1,z))(hy:y=(q:Int))(hz:1≤z∧z≤4294967295):HQ 454 [pV b,.agg #[iV 3,iV y,uV z]] [Dk b X] (iV 0) [Dk b (giv X (3,y,z))]:=by
 refine hiS func454 ntmps454 fun g w0 R h0=>g0<|nP 185 [pV b] h0 (fun r10 _ h12=> ?_)
 refine nP 48 [iV 3,iV y,uV z] h12 (fun r13 _ h15=> ?_)
 have h16:=h15.a.b.t4
 refine go [rd 1 0 1 0 1 h15,rd 1 1 0 0 3 h15]<|cl3 call359 (dwith_g b r10 r13 X y z q hat hy hz) h16 fun _ h18=>g0 ?_
 exact enR _ [] h18.c.a.t2
theorem dall_ht(b:Nat)(X:Xs):HT prog 547 [pV b] [Dk b X] (fun v K=> ∃(p:Option Addr) (c:Nat),v= .slice p ((inS 1 (As X) 0).length) c∧K= [Dk b X,Sl 48 3 p ((inS 1 (As X) 0).length) c (fl eO (allK 3 X))]):=by
 refine hiS func547 ntmps547 fun g w0 R h0=> ?_
 obtain⟨s10,V11,hP12,h13⟩:=dk_open h0
 have hb14:=tb_bd (j:=1) h13 rfl
 have hAl_:=hb14.1;have hok_:=hb14.2.2.2
 refine g0<|cl1 call172 (dmade_cl b s10 (fl eI V11)) h13 fun _ h16=> ?_
 have h19:=h16.a.t3
 refine go [rd 4 3 0 0 1 h16]<|cP call459 (taken_ht s10 64 (As X)) h19 ?_
 rintro v K w20 (⟨p17,c18,rfl,rfl⟩) h21
 have h22:=ap2 h21
 refine g0 ?_
 have h24:sat g _ (Dk b X::_):=dk_close hP12 rfl h22.b.t4
 have hB_:=dk_bd (j:=0) h24 rfl;have hl_:((inS 1 (As X) 0).length)≤64:=by have d:=inS_len 1 (As X) 0;rw[as_len,hB_] at d;exact d
 have h25:sat g _ (Sl 48 3 none 0 0 (fl eO [])::_):=sl_nil 48 3 h24
 refine lpS (fun mz_ a w=> ∃i:Nat,∃p2:Option Addr,∃c2:Nat,∃lr:Fr,mz_=((inS 1 (As X) 0).length)-i∧(i≤((inS 1 (As X) 0).length))∧a=mk 29 (([(3,.slice p2 i c2),(13,.slice p17 ((inS 1 (As X) 0).length) c18),(14,iV (((inS 1 (As X) 0).length:Nat):Int)),(15,iV i)]:Fr)++lr)∧sat g w [Sl 48 3 p2 i c2 (fl eO ((allK 3 X).take i)),Sl 203 2 p17 ((inS 1 (As X) 0).length) c18 (fl eRf (inS 1 (As X) 0)),Dk b X,R]) (((inS 1 (As X) 0).length)-0) ⟨0,none,0,_,rfl,(Nat.zero_le _),(lvF [.k 3 (.slice none 0 0),.k 13 (.slice p17 ((inS 1 (As X) 0).length) c18),.k 14 (iV (((inS 1 (As X) 0).length:Nat):Int)),.o 15 (oJ .i64 0 (0:Int))]),h25.b.a.t4⟩ ?_
 rintro m28 a29 w30 ⟨i,p2,c2,lr27,rfl,hi,rfl,h31⟩
 refine ga<|go [.s 5 0] ?_
 by_cases c32:(i:Int)<(((inS 1 (As X) 0).length:Nat):Int)
 ·
  obtain⟨b33,hp34⟩:=sl_ptr0 (j:=1) h31 rfl om
  refine go [.v 5 0 (oT _ c32),.s 6 0]<|lwP (.pointer (some ⟨b33,i*2,none⟩)) (liP (Ot 13) (Ot 15) p17 b33 0 (i:Int) ((inS 1 (As X) 0).length) c18 underlying392 2 i hp34 (i*2)) ?_
  have h35:=h31.a.t4
  have hl36:=fl_n eRf_ok dc h35
  have hx37:(inS 1 (As X) 0)[i]? =some (slI X i,slG X i):=by unfold slI slG;rw[List.getElem?_eq_getElem om,getD_some (List.getElem?_eq_getElem om)]
  refine go [.r 6 1 b33 (i*2) [iV ((slI X i:Nat):Int),uV (slG X i)] ⟨gvc 0 h35 rfl hp34 eRf_ok 0 (iV ((slI X i:Nat):Int)) hx37 (i*2),gvc 0 h35 rfl hp34 eRf_ok 1 (uV (slG X i)) hx37 (i*2+1),trivial⟩]<|nP 203 [iV 0,uV 0] h35 (fun r38 _ h40=> ?_)
  refine sA [iV ((slI X i:Nat):Int),uV (slG X i)] h40 fun _ h42=>go [rd 7 2 0 0 1 h42,rd 7 4 0 1 1 h42]<|nG (fun q_=> .slice (some ⟨q_,0,none⟩) 1 1) 48 [iV 3,iV ((slI X i:Nat):Int),uV (slG X i)] h42 (fun r43 _ h45=>⟨kd [],?_⟩)
  have h46:=h45.c.t6
  refine actG ?_
  refine aA 26 3 (Ot 19) (Ot 25) (.agg #[iV 0,iV 0,uV 0]) p2 i c2 1 1 (⟨r43,0,none⟩) 24 underlying514 h46 (fl eO [(3,((slI X i:Nat):Int),(slG X i))]) rfl (cell1 h46 rfl) (fl_one eO_ok _) (i+1) ?_
  intro p47 cap48 w49 h50
  have h51:sat g _ (Sl 48 3 p47 (i+1) cap48 (fl eO (((allK 3 X).take i)++ [(3,((slI X i:Nat):Int),(slG X i))]))::_):=sJ h50
  obtain⟨hn52,hn53⟩:=sl_le h51
  refine nxA<|go [.v 8 0 (oIr ((i:Int)+1))] ?_
  refine enL ?_
  have h54:sat g _ (Sl 48 3 p47 (i+1) cap48 (fl eO ((allK 3 X).take (i+1)))::_):=sat_imp h51 (fun _ hh_=>by rw[show ((((allK 3 X).take i)++ [(3,((slI X i:Nat):Int),(slG X i))]):List Ky)=((allK 3 X).take (i+1)) from (allK_take om)] at hh_;exact hh_)
  have h56:=tk4 h54.e.e.e.c.t6
  change ∃n',n'<_∧_
  refine⟨(((inS 1 (As X) 0).length)-(i+1)),by omega,(i+1),p47,cap48,_,rfl,om,(lvF [.k 3 (.slice p47 (i+1) cap48),.k 13 (.slice p17 ((inS 1 (As X) 0).length) c18),.k 14 (iV (((inS 1 (As X) 0).length:Nat):Int)),.o 15 (oJ .i64 ((i:Int)+1) (((i+1):Nat):Int))]),h56⟩
 refine go [.v 5 0 (oF _ c32)]<|up<|g0 ?_
 have hi_:i=((inS 1 (As X) 0).length):=by omega
 have h57:sat g _ (Sl 48 3 p2 ((inS 1 (As X) 0).length) c2 (fl eO (allK 3 X))::_):=sat_imp h31 (fun _ hh_=>by rw[hi_,List.take_of_length_le (by rw[allK_len];exact Nat.le_refl _)] at hh_;exact hh_)
 exact en (.slice p2 i c2) [] ⟨_,_,rfl,⟨p2,c2,by rw[hi_],rfl⟩,(tk3 (sf2 (sf2 (sf3 h57.b.t4))))⟩
theorem kyO:KyOk prog 48 kv:=kyOf keyok
theorem lchk_ht(ta x y z wy an:Int)(hz0:0≤z)(hz1:z≤4294967295):HQ 304 [.agg #[iV ta,iV x,iV y,uV z,iV wy,iV an]] [] (iV (attE ⟨ta,(x,y,z),wy,an⟩)) []:=by
 refine hiS func304 ntmps304 fun g w0 R h0=>g0<|nP 50 [iV ta,iV x,iV y,uV z,iV wy,iV an] h0 (fun _ _ h12=> ?_)
 refine go [rd 1 1 0 0 1 h12,.s 1 2] ?_
 by_cases c13:ta<0
 ·
  refine go [.v 1 2 (oT _ c13)] ?_
  exact en (iV 2) [] ⟨_,_,rfl,⟨by unfold attE;rw[if_neg (by simp only[attP,outE_iff];omega)],rfl⟩,h12.a.t1⟩
 refine go [.v 1 2 (oF _ c13),rd 1 5 0 0 1 h12,.s 1 6] ?_
 by_cases c15:ta>1099511627776
 ·
  refine go [.v 1 6 (oT _ c15)] ?_
  exact en (iV 2) [] ⟨_,_,rfl,⟨by unfold attE;rw[if_neg (by simp only[attP,outE_iff];omega)],rfl⟩,h12.a.t1⟩
 refine go [.v 1 6 (oF _ c15),rd 1 10 0 1 3 h12] ?_
 by_cases c17:1≤x
 ·
  by_cases c18:x≤3;rotate_left
  ·
   refine cl0 call273 (couter_no x y z om om om) h12 fun _ h43=>g0 ?_
   exact en (iV 2) [] ⟨_,_,rfl,⟨by unfold attE;rw[if_neg (by simp only[attP,outE_iff];omega)],rfl⟩,h43.a.t1⟩
  by_cases c19:0≤y;rotate_left
  ·
   refine cl0 call273 (couter_no x y z om om om) h12 fun _ h40=>g0 ?_
   exact en (iV 2) [] ⟨_,_,rfl,⟨by unfold attE;rw[if_neg (by simp only[attP,outE_iff];omega)],rfl⟩,h40.a.t1⟩
  by_cases c20:y≤63;rotate_left
  ·
   refine cl0 call273 (couter_no x y z om om om) h12 fun _ h37=>g0 ?_
   exact en (iV 2) [] ⟨_,_,rfl,⟨by unfold attE;rw[if_neg (by simp only[attP,outE_iff];omega)],rfl⟩,h37.a.t1⟩
  by_cases c21:1≤z;rotate_left
  ·
   refine cl0 call273 (couter_no x y z om om om) h12 fun _ h34=>g0 ?_
   exact en (iV 2) [] ⟨_,_,rfl,⟨by unfold attE;rw[if_neg (by simp only[attP,outE_iff];omega)],rfl⟩,h34.a.t1⟩
  refine cl0 call273 (couter_ok x y z om om om) h12 fun _ h23=>go [rd 1 16 0 4 1 h23,.s 1 17] ?_
  by_cases c24:wy<1
  ·
   refine go [.v 1 17 (oT _ c24)] ?_
   exact en (iV 2) [] ⟨_,_,rfl,⟨by unfold attE;rw[if_neg (by simp only[attP,outE_iff];omega)],rfl⟩,h23.a.t1⟩
  refine go [.v 1 17 (oF _ c24),rd 1 21 0 4 1 h23,.s 1 22] ?_
  by_cases c26:wy>3
  ·
   refine go [.v 1 22 (oT _ c26)] ?_
   exact en (iV 2) [] ⟨_,_,rfl,⟨by unfold attE;rw[if_neg (by simp only[attP,outE_iff];omega)],rfl⟩,h23.a.t1⟩
  refine go [.v 1 22 (oF _ c26),rd 1 26 0 5 1 h23,.s 1 27] ?_
  by_cases c28:an<1
  ·
   refine go [.v 1 27 (oT _ c28)] ?_
   exact en (iV 2) [] ⟨_,_,rfl,⟨by unfold attE;rw[if_neg (by simp only[attP,outE_iff];omega)],rfl⟩,h23.a.t1⟩
  refine go [.v 1 27 (oF _ c28),rd 1 31 0 5 1 h23,.s 1 32] ?_
  by_cases c30:an>3
  ·
   refine go [.v 1 32 (oT _ c30)] ?_
   exact en (iV 2) [] ⟨_,_,rfl,⟨by unfold attE;rw[if_neg (by simp only[attP,outE_iff];omega)],rfl⟩,h23.a.t1⟩
  refine go [.v 1 32 (oF _ c30)] ?_
  exact en (iV 0) [] ⟨_,_,rfl,⟨by unfold attE;rw[if_pos (by simp only[attP,outE_iff];omega)],rfl⟩,h23.a.t1⟩
 refine cl0 call273 (couter_no x y z om om om) h12 fun _ h46=>g0 ?_
 exact en (iV 2) [] ⟨_,_,rfl,⟨by unfold attE;rw[if_neg (by simp only[attP,outE_iff];omega)],rfl⟩,h46.a.t1⟩
theorem lmade_cl(b:Nat)(v0:Value)(m:Nat):HQ 42 [pV b] [Cl b [v0,.map (some m)] 117] (.bool true) [Cl b [v0,.map (some m)] 117]:=by
 refine hiS func42 ntmps42 fun g w0 R h0=>go [rd 1 6 0 1 1 h0] ?_
 exact enR _ [] h0
theorem lgnew_ht:HT prog 73 [] [] (fun v K=> ∃b:Nat,v=pV b∧K= [Lg b []]):=by
 refine hiS func73 ntmps73 fun g w0 R h0=>g0 ?_
 refine actG ?_
 refine ag_makeMap (t:=115) (d:=1) kv vSv kr kr rfl h0 ?_
 intro r10 _ h12
 refine nxA<|g0<|nP 117 [.slice none 0 0,.map (some r10)] h12 (fun r13 w14 h15=> ?_)
 refine g0 ?_
 have h17:sat g _ (Ml 3 r10 0::_):=ml_new h15.a.t3
 have h18:sat g _ (Sl 50 6 none 0 0 (fl eAt [])::_):=sl_nil 50 6 h17
 have h20:sat g _ (Lg r13 []::_):=lg_close (Nat.zero_le _) rfl h18.b.t4
 exact en (pV r13) [] ⟨_,_,rfl,⟨r13,rfl,rfl⟩,h20⟩
theorem lglen_ht(b:Nat)(T:List At):HQ 418 [pV b] [Lg b T] (iV (T.length:Int)) [Lg b T]:=by
 refine hiS func418 ntmps418 fun g w0 R h0=> ?_
 obtain⟨p10,c11,m12,hl13,h14⟩:=lg_open h0
 refine g0<|cl1 call42 (lmade_cl b (.slice p10 T.length c11) m12) h14 fun w15 h16=>go [rd 3 3 0 0 1 h16] ?_
 have h17:sat g _ (Lg b T::_):=lg_close hl13 rfl h16
 exact enR (iV (T.length:Int)) [] h17
theorem lgadd_ht(b:Nat)(T:List At)(ta x y z wy an:Int)(hz0:0≤z)(hz1:z≤4294967295)(hat:attP (⟨ta,(x,y,z),wy,an⟩:At))(hTa: ∀a∈T,a.at_≤ta)(hn:T.length<10000):HQ 419 [pV b,.agg #[iV ta,iV x,iV y,uV z,iV wy,iV an]] [Lg b T] (iV 0) [Lg b (T++ [(⟨ta,(x,y,z),wy,an⟩:At)])]:=by
 refine hiS func419 ntmps419 fun g w0 R h0=>g0<|nP 50 [iV ta,iV x,iV y,uV z,iV wy,iV an] h0 (fun r10 _ h12=> ?_)
 have h13:=h12.a.t3
 refine g0<|cl1 call418 (lglen_ht b T) h13 fun _ h15=> ?_
 obtain⟨p16,c17,m18,hl19,h20⟩:=lg_open h15
 refine g0<|cl1 call42 (lmade_cl b (.slice p16 T.length c17) m18) h20 fun _ h22=>go [rd 6 0 3 0 6 h22]<|cl0 call304 (by have h_:=lchk_ht ta x y z wy an om om;rw[show attE (⟨ta,(x,y,z),wy,an⟩:At)=0 from if_pos hat] at h_;exact h_) h22 fun _ h24=> ?_
 refine g0<|dw (fls [0,1,2,3,4,5,6,7,8,9,10,11,12,13,14,15,16] Tr.nil) h24 fun _ h26=>go [.s 8 1] ?_
 by_cases c27:(T.length:Int)>0
 ·
  obtain⟨b28,hp29⟩:=sl_ptr0 (j:=1) h26 rfl om
  obtain⟨kk30,hk31⟩: ∃z:Nat,z=T.length-1:=⟨_,rfl⟩
  refine go [.v 8 1 (oT _ c27),rd 8 4 3 0 1 h26,rd 8 8 0 0 1 h26,.v 8 10 (oIr ((T.length:Int)-1)),.s 8 11]<|lw (.pointer (some ⟨b28,kk30*6,none⟩)) (fun _=>liP (Ot 47) (Ot 49) p16 b28 0 ((T.length:Int)-1) T.length c17 underlying44 6 kk30 hp29 (kk30*6)) ?_
  obtain⟨x32,hx33⟩:=gX T (T.length-1) om
  have hm34:=hTa x32 (List.mem_of_getElem? hx33)
  refine go [.r 8 13 b28 (kk30*6) [iV x32.at_] ⟨gvc 1 h26 rfl hp29 eAt_ok 0 (iV x32.at_) hx33 (kk30*6),trivial⟩,.v 8 14 (oF (ta<x32.at_)),.v 10 1 (oF ((T.length:Int)≥10000))]<|dw (fls [0,1,2,3,4,5] (Tr.an 6 (Tr.an 7 (fls [8,9] (Tr.an 10 Tr.nil))))) h26 fun _ h36=>go [rd 2 4 0 0 1 h36,rd 2 5 3 0 6 h36]<|nG (fun q_=> .slice (some ⟨q_,0,none⟩) 1 1) 50 [iV ta,iV x,iV y,uV z,iV wy,iV an] h36 (fun r37 _ h39=>⟨kd [rd 0 4 1 0 1 h39],?_⟩)
  have h40:=h39.b.t6
  refine actG ?_
  refine aA 15 6 (Ot 12) (Ot 14) (.agg #[iV 0,iV 0,iV 0,uV 0,iV 0,iV 0]) p16 T.length c17 1 1 (⟨r37,0,none⟩) 48 underlying44 h40 (fl eAt [(⟨ta,(x,y,z),wy,an⟩:At)]) rfl (cell1 h40 rfl) (fl_one eAt_ok _) (T.length+1) ?_
  intro p41 cap42 w43 h44
  have h45:sat g _ (Sl 50 6 p41 (T.length+1) cap42 (fl eAt (T++ [(⟨ta,(x,y,z),wy,an⟩:At)]))::_):=sJ h44
  obtain⟨hn46,hn47⟩:=sl_le h45
  refine⟨kd [],nxG ?_⟩
  have h48:=h45.b.t6
  refine g0<|sG [(0,.slice p41 (T.length+1) cap42)] [.slice p41 (T.length+1) cap42,.map (some m18)] h48 fun _ h50=>⟨kd [],?_⟩
  refine g0<|dw (fls [0,1,2,3,4,5,6] (Tr.an 7 (Tr.an 8 (fls [9,11] (Tr.an 10 (Tr.an 12 Tr.nil)))))) h50 fun _ h52=>go [rd 3 3 0 1 1 h52,rd 3 5 4 1 3 h52]<|nG (fun q_=> .slice (some ⟨q_,0,none⟩) 1 1) 3 [iV (T.length:Int)] h52 (fun r53 _ h55=>⟨kd [rd 0 5 5 1 3 h55,rd 0 3 1 1 1 h55],?_⟩)
  obtain⟨E57,p58,n59,c60,l61,R62,hn63,hg64,hB65,h66⟩:=ml_take h55.d.t7 (x,y,z)
  have h69:=h66.a.t9
  obtain⟨hn67,hn68⟩:=sl_le h69
  have h70:=h69.a.t9
  refine actG ?_
  refine ag_entry (t:=115) (d:=27) (m:=Ot 21) (x:=Ot 23) (kv:=kv) (ve:=vSv) (z0:=(none,0,0)) kr kr rfl underlying115 kyO kr (x,y,z) kr kr h70 (p58,n59,c60) (hg64.imp id (fun h_=>⟨h_.1,Prod.ext h_.2.1 (Prod.ext h_.2.2.1 h_.2.2.2)⟩)) ?_
  intro z71 _ h73
  refine⟨kd [],nxG ?_⟩
  have h74:=h73.a.t9
  refine g0 ?_
  refine actG ?_
  refine aA 28 1 (Ot 24) (Ot 26) (iV 0) p58 n59 c60 1 1 (⟨r53,0,none⟩) 8 underlying134 h74 (fl eI [(T.length:Int)]) rfl (fun j u hj=>by rw[add_off];exact sat_cell h74 3 rfl (by rw[Nat.zero_add];exact hj)) (fl_one eI_ok _) (n59+1) ?_
  intro p75 cap76 w77 h78
  have h79:sat g _ (Sl 3 1 p75 (n59+1) cap76 (fl eJ (l61++ [(T.length:Int)]))::_):=sJ h78
  obtain⟨hn80,hn81⟩:=sl_le h79
  refine⟨kd [],nxG ?_⟩
  have h82:=h79.a.t9
  refine actG ?_
  refine ag_entryStore (t:=115) (m:=Ot 21) (x:=Ot 29) (y:=Ot 28) (kv:=kv) (ve:=vSv) kr kr (p75,n59+1,cap76) kr kr kr h82 (gset E57 (x,y,z) (p75,n59+1,cap76)) (gset_gset _ _ _ _) ?_
  intro w83 h84
  have h85:sat g w83 [Ml 3 m18 (T.length+1),Cl r53 [iV (T.length:Int)] 3,Cl b [.slice p41 (T.length+1) cap42,.map (some m18)] 117,Sl 50 6 p41 (T.length+1) cap42 (fl eAt (T++ [(⟨ta,(x,y,z),wy,an⟩:At)])),Cl r37 [iV ta,iV x,iV y,uV z,iV wy,iV an] 50,Cl r10 [iV ta,iV x,iV y,uV z,iV wy,iV an] 50,R]:=hB65 _ _ _ _ _ _ (l61++ [(T.length:Int)]) (T.length+1) om om h84
  refine⟨kd [],nxN ?_⟩
  refine g0 ?_
  have h87:sat g _ (Lg b (T++ [(⟨ta,(x,y,z),wy,an⟩:At)])::_):=lg_close (by rw[List.length_append];exact hn) (by rw[List.length_append];rfl) h85.c.c.t7
  exact enR _ [] h87.d.a.t2
 refine go [.v 8 1 (oF _ c27),.v 10 1 (oF ((T.length:Int)≥10000))]<|dw (fls [0,1,2,3,4,5] (Tr.an 6 (Tr.an 7 (fls [8,9] (Tr.an 10 Tr.nil))))) h26 fun _ h90=>go [rd 2 4 0 0 1 h90,rd 2 5 3 0 6 h90]<|nG (fun q_=> .slice (some ⟨q_,0,none⟩) 1 1) 50 [iV ta,iV x,iV y,uV z,iV wy,iV an] h90 (fun r91 _ h93=>⟨kd [rd 0 4 1 0 1 h93],?_⟩)
 have h94:=h93.b.t6
 refine actG ?_
 refine aA 15 6 (Ot 12) (Ot 14) (.agg #[iV 0,iV 0,iV 0,uV 0,iV 0,iV 0]) p16 T.length c17 1 1 (⟨r91,0,none⟩) 48 underlying44 h94 (fl eAt [(⟨ta,(x,y,z),wy,an⟩:At)]) rfl (cell1 h94 rfl) (fl_one eAt_ok _) (T.length+1) ?_
 intro p95 cap96 w97 h98
 have h99:sat g _ (Sl 50 6 p95 (T.length+1) cap96 (fl eAt (T++ [(⟨ta,(x,y,z),wy,an⟩:At)]))::_):=sJ h98
 obtain⟨hn100,hn101⟩:=sl_le h99
 refine⟨kd [],nxG ?_⟩
 have h102:=h99.b.t6
 refine g0<|sG [(0,.slice p95 (T.length+1) cap96)] [.slice p95 (T.length+1) cap96,.map (some m18)] h102 fun _ h104=>⟨kd [],?_⟩
 refine g0<|dw (fls [0,1,2,3,4,5,6] (Tr.an 7 (Tr.an 8 (fls [9,11] (Tr.an 10 (Tr.an 12 Tr.nil)))))) h104 fun _ h106=>go [rd 3 3 0 1 1 h106,rd 3 5 4 1 3 h106]<|nG (fun q_=> .slice (some ⟨q_,0,none⟩) 1 1) 3 [iV (T.length:Int)] h106 (fun r107 _ h109=>⟨kd [rd 0 5 5 1 3 h109,rd 0 3 1 1 1 h109],?_⟩)
 obtain⟨E111,p112,n113,c114,l115,R116,hn117,hg118,hB119,h120⟩:=ml_take h109.d.t7 (x,y,z)
 have h123:=h120.a.t9
 obtain⟨hn121,hn122⟩:=sl_le h123
 have h124:=h123.a.t9
 refine actG ?_
 refine ag_entry (t:=115) (d:=27) (m:=Ot 21) (x:=Ot 23) (kv:=kv) (ve:=vSv) (z0:=(none,0,0)) kr kr rfl underlying115 kyO kr (x,y,z) kr kr h124 (p112,n113,c114) (hg118.imp id (fun h_=>⟨h_.1,Prod.ext h_.2.1 (Prod.ext h_.2.2.1 h_.2.2.2)⟩)) ?_
 intro z125 _ h127
 refine⟨kd [],nxG ?_⟩
 have h128:=h127.a.t9
 refine g0 ?_
 refine actG ?_
 refine aA 28 1 (Ot 24) (Ot 26) (iV 0) p112 n113 c114 1 1 (⟨r107,0,none⟩) 8 underlying134 h128 (fl eI [(T.length:Int)]) rfl (fun j u hj=>by rw[add_off];exact sat_cell h128 3 rfl (by rw[Nat.zero_add];exact hj)) (fl_one eI_ok _) (n113+1) ?_
 intro p129 cap130 w131 h132
 have h133:sat g _ (Sl 3 1 p129 (n113+1) cap130 (fl eJ (l115++ [(T.length:Int)]))::_):=sJ h132
 obtain⟨hn134,hn135⟩:=sl_le h133
 refine⟨kd [],nxG ?_⟩
 have h136:=h133.a.t9
 refine actG ?_
 refine ag_entryStore (t:=115) (m:=Ot 21) (x:=Ot 29) (y:=Ot 28) (kv:=kv) (ve:=vSv) kr kr (p129,n113+1,cap130) kr kr kr h136 (gset E111 (x,y,z) (p129,n113+1,cap130)) (gset_gset _ _ _ _) ?_
 intro w137 h138
 have h139:sat g w137 [Ml 3 m18 (T.length+1),Cl r107 [iV (T.length:Int)] 3,Cl b [.slice p95 (T.length+1) cap96,.map (some m18)] 117,Sl 50 6 p95 (T.length+1) cap96 (fl eAt (T++ [(⟨ta,(x,y,z),wy,an⟩:At)])),Cl r91 [iV ta,iV x,iV y,uV z,iV wy,iV an] 50,Cl r10 [iV ta,iV x,iV y,uV z,iV wy,iV an] 50,R]:=hB119 _ _ _ _ _ _ (l115++ [(T.length:Int)]) (T.length+1) om om h138
 refine⟨kd [],nxN ?_⟩
 refine g0 ?_
 have h141:sat g _ (Lg b (T++ [(⟨ta,(x,y,z),wy,an⟩:At)])::_):=lg_close (by rw[List.length_append];exact hn) (by rw[List.length_append];rfl) h139.c.c.t7
 exact enR _ [] h141.d.a.t2
theorem aclone_nil(c:Nat)(X:Assn):HT prog 43 [.slice none 0 c] [X] (fun v K=> ∃p c,v= .slice p 0 c∧K= [Sl 50 6 p 0 c (fl eAt []),X]):=by
 refine hiS func43 ntmps43 fun g w0 R h0=>g0 ?_
 have h10:sat g _ (Sl 50 6 none 0 0 (fl eAt [])::_):=sl_nil 50 6 h0
 exact en (.slice none 0 0) [] ⟨_,_,rfl,⟨none,0,rfl,rfl⟩,h10⟩
theorem aclone_none(n c:Nat)(L:List At)(X:Assn)(hX:Gv X none n (fl eAt L))(hL:L.length=n):HT prog 43 [Value.slice none n c] [X] (fun v K=> ∃p c,v=Value.slice p n c∧K= [Sl 50 6 p n c (fl eAt L),X]):=by
 have hn0:n=0∨0<n:=by omega
 rcases hn0 with hn0|hn0
 · have hl0:L= []:=List.eq_nil_of_length_eq_zero om
   subst hl0
   subst hn0
   exact aclone_nil c X
 · intro g w F hs
   obtain⟨b,off,h1⟩:=gv_ptr (j:=0) hs rfl hX hn0
   cases h1
theorem aclone_some(a:Addr)(p:Option Addr)(hp:p=some a)(n c:Nat)(L:List At)(X:Assn)(hX:Gv X p n (fl eAt L))(hL:L.length=n)(hn:n≤1099511627776):HT prog 43 [.slice p n c] [X] (fun v K=> ∃p c,v= .slice p n c∧K= [Sl 50 6 p n c (fl eAt L),X]):=by
 refine hiS func43 ntmps43 fun g w0 R h0=>go [.s 1 1]<|lwP (.bool false) (law_sliceSome (x:=Ot 3) (y:=(Operand.const (.slice none 0 0))) (m:=n) (c:=c) kr underlying44 kr hp kr _)<|g0<|nG (fun q_=> .slice (some ⟨q_,0,none⟩) 0 0) 50 [] h0 (fun r10 w11 h12=>⟨kd [],?_⟩)
 have h13:sat g _ (Sl 50 6 (some ⟨r10,0,none⟩) 0 0 (fl eAt [])::_):=sl_of_cl h12 rfl om
 refine g0 ?_
 refine actG ?_
 refine aG 7 6 (Ot 5) (Ot 6) (.agg #[iV 0,iV 0,iV 0,uV 0,iV 0,iV 0]) (some ⟨r10,0,none⟩) p 0 0 n c 48 underlying44 h13 1 rfl (fl eAt L) hX (by rw[fl_len eAt_ok,hL]) (fl_one eAt_ok _) n ?_
 intro p14 cap15 w16 h17
 have h18:sat g _ (Sl 50 6 p14 n cap15 (fl eAt L)::_):=sI h17
 obtain⟨hn19,hn20⟩:=sl_le h18
 refine nxA<|g0 ?_
 exact en (.slice p14 n cap15) [] ⟨_,_,rfl,⟨p14,cap15,rfl,rfl⟩,h18⟩
theorem aclone_ht(p:Option Addr)(n c:Nat)(L:List At)(X:Assn)(hX:Gv X p n (fl eAt L))(hL:L.length=n)(hn:n≤1099511627776):HT prog 43 [Value.slice p n c] [X] (fun v K=> ∃p c,v=Value.slice p n c∧K= [Sl 50 6 p n c (fl eAt L),X]):=by
 cases p with
 |none=>exact aclone_none n c L X hX hL
 |some a=>exact aclone_some a _ rfl n c L X hX hL hn
theorem lgall_ht(b:Nat)(T:List At):HT prog 21 [pV b] [Lg b T] (fun v K=> ∃p c,v= .slice p T.length c∧K= [Sl 50 6 p T.length c (fl eAt T),Lg b T]):=by
 refine hiS func21 ntmps21 fun g w0 R h0=> ?_
 obtain⟨p10,c11,m12,hl13,h14⟩:=lg_open h0
 refine g0<|cl1 call42 (lmade_cl b (.slice p10 T.length c11) m12) h14 fun _ h16=> ?_
 have h19:=h16.a.t4
 refine go [rd 3 3 0 0 1 h16]<|cP call43 (aclone_ht p10 T.length c11 T (Sl 50 6 p10 T.length c11 (fl eAt T)) (gv_sl _ _ _) rfl om) h19 ?_
 rintro v K w20 (⟨p17,c18,rfl,rfl⟩) h21
 have h22:=ap2 h21
 refine g0 ?_
 have h24:sat g _ (Lg b T::_):=lg_close hl13 rfl h22.c.b.c.t5
 exact en (.slice p17 T.length c18) [] ⟨_,_,rfl,⟨p17,c18,rfl,rfl⟩,h24.a.t3⟩
theorem lgcopy_ht(b:Nat)(T:List At):HT prog 41 [pV b] [Lg b T] (fun v K=> ∃b2:Nat,v=pV b2∧K= [Lg b T,Lg b2 T]):=by
 refine hiS func41 ntmps41 fun g w0 R h0=> ?_
 obtain⟨p10,c11,m12,hl13,h14⟩:=lg_open h0
 refine g0<|cl1 call42 (lmade_cl b (.slice p10 T.length c11) m12) h14 fun _ h16=>g0<|cP call73 lgnew_ht h16 ?_
 rintro v K _ (⟨b17,rfl,rfl⟩) h19
 have h20:=ap1 h19
 have h23:=h20.b.t5
 refine go [rd 4 4 1 0 1 h20]<|cP call43 (aclone_ht p10 T.length c11 T (Sl 50 6 p10 T.length c11 (fl eAt T)) (gv_sl _ _ _) rfl om) h23 ?_
 rintro v K _ (⟨p21,c22,rfl,rfl⟩) h25
 obtain⟨p28,c29,m30,hl31,h32⟩:=lg_open ((ap2 h25).b.t6)
 refine g0<|sP [(0,.slice p21 T.length c22)] [.slice p21 T.length c22,.map (some m30)] h32 fun _ h34=> ?_
 obtain⟨R_,hR_,h36⟩:=ml_open h34.f.t8
 refine go [rd 5 3 5 1 1 h34] ?_
 refine actG ?_
 refine ag_range (t:=115) (d:=22) (x:=Ot 21) kr kr rfl underlying115 kr h36 ?_
 intro r37 w38 h39
 refine nxA<|g0 ?_
 have h41:sat g w38 [Ml 3 m30 T.length,It kv vSv m12 r37 (rwE R_) (rwE R_) none,Rws 3 R_,Cl b17 [.slice p21 T.length c22,.map (some m30)] 117,Sl 50 6 p28 ([].length) c29 (fl eAt []),Sl 50 6 p21 T.length c22 (fl eAt T),Sl 50 6 p10 T.length c11 (fl eAt T),Cl b [.slice p10 T.length c11,.map (some m12)] 117,R]:=ml_more (Nat.zero_le _) h39.d.t9
 refine lpS (fun mz_ a w=> ∃S:List (Ky×Sv),∃cur:Option (Ky×Sv),∃lr:Fr,mz_=S.length∧(∀q∈S,q∈rwE R_)∧a=mk 36 (([(3,pV b17),(22,pV r37)]:Fr)++lr)∧sat g w [It kv vSv m12 r37 (rwE R_) S cur,Rws 3 R_,Cl b [.slice p10 T.length c11,.map (some m12)] 117,Sl 50 6 p10 T.length c11 (fl eAt T),Cl b17 [.slice p21 T.length c22,.map (some m30)] 117,Sl 50 6 p21 T.length c22 (fl eAt T),Ml 3 m30 T.length,R]) ((rwE R_).length) ⟨(rwE R_),none,_,rfl,(fun _ hq_=>hq_),(lvF [.k 3 (pV b17),.k 22 (pV r37)]),(tk8 h41.h.a.f.e.x.h.x.x.t9)⟩ ?_
 rintro m45 a46 w47 ⟨S,cur,lr44,rfl,hsub,rfl,h48⟩
 refine ga<|g0 ?_
 refine actG ?_
 refine ag_next (d:=23) (x:=Ot 22) kr kr rfl kr h48 ?_ ?_
 ·
  intro hS49 w50 h51
  refine nxA<|g0<|up<|g0 ?_
  have h57:sat g _ (Ml 3 m12 T.length::_):=ml_close hR_ (it_end h51)
  have h59:sat g _ (Lg b T::_):=lg_close hl13 rfl h57.b.b.t7
  have h61:sat g _ (Lg b17 T::_):=lg_close hl13 rfl h59.c.c.c.t5
  exact en (pV b17) [] ⟨_,_,rfl,⟨b17,rfl,rfl⟩,h61.a.t3⟩
 intro ix52 q53 hq54 _ h56
 have hel63:=erase_len hq54
 refine nxA<|g0 ?_
 refine actG ?_
 refine act_law (d:=25) (.tuple #[.agg #[iV q53.1.1,iV q53.1.2.1,uV q53.1.2.2],.slice q53.2.1 q53.2.2.1 q53.2.2.2]) kr rfl (law_entry (x:=Ot 22) kr kr h56 (.tuple #[.agg #[iV q53.1.1,iV q53.1.2.1,uV q53.1.2.2],.slice q53.2.1 q53.2.2.1 q53.2.2.2]) rfl) ?_
 refine nxA<|g0<|nP 48 [iV 0,iV 0,uV 0] h56 (fun r64 _ h66=> ?_)
 refine sA [iV q53.1.1,iV q53.1.2.1,uV q53.1.2.2] h66 fun _ h68=>g0<|dw (fls [0,1,2,3,4,5] (Tr.an 6 (Tr.an 7 Tr.nil))) h68 fun _ h70=> ?_
 have hm71:=hsub q53 (List.mem_of_getElem? hq54);have hm71b:=rwE_le hR_ hm71
 obtain⟨l73,R74,hb75,h76⟩:=rows_at h70.b.t9 hm71
 have hl79:=fl_n eJ_ok dc h76
 refine go [rd 8 3 5 1 1 h70,rd 8 4 0 0 3 h70]<|cG call109 (clone_ht q53.2.1 q53.2.2.1 q53.2.2.2 l73 (Sl 3 1 q53.2.1 q53.2.2.1 q53.2.2.2 (fl eJ l73)) (gv_sl _ _ _) hl79 om) h76 ?_
 rintro v K w80 (⟨p77,c78,rfl,rfl⟩) h81
 have h84:sat g w80 [Rws 3 R_,Sl 3 1 p77 q53.2.2.1 c78 (fl eJ l73),Cl r64 [iV q53.1.1,iV q53.1.2.1,uV q53.1.2.2] 48,It kv vSv m12 r37 (rwE R_) (S.eraseIdx ix52) (some q53),Cl b [.slice p10 T.length c11,.map (some m12)] 117,Sl 50 6 p10 T.length c11 (fl eAt T),Cl b17 [.slice p21 T.length c22,.map (some m30)] 117,Sl 50 6 p21 T.length c22 (fl eAt T),Ml 3 m30 T.length,R]:=hb75 _ _ _ ((ap2 h81).b.b.t11)
 refine⟨kd [rd 0 4 2 0 3 h84,rd 0 3 6 1 1 h84],?_⟩
 obtain⟨E86,p87,n88,c89,l90,R91,hn92,hg93,hB94,h95⟩:=ml_take h84.h.t10 (q53.1.1,q53.1.2.1,q53.1.2.2)
 have h98:=h95.a.t12
 obtain⟨hn96,hn97⟩:=sl_le h98
 have h99:=h98.a.t12
 refine actG ?_
 refine ag_mapUpdate (t:=115) (m:=Ot 31) (x:=Ot 32) (y:=Ot 34) (kv:=kv) (ve:=vSv) kr kr underlying115 kyO (q53.1.1,q53.1.2.1,q53.1.2.2) (p77,q53.2.2.1,c78) kr kr kr h99 (gset E86 (q53.1.1,q53.1.2.1,q53.1.2.2) (p77,q53.2.2.1,c78)) rfl ?_
 intro w100 h101
 have h103:sat g w100 [Ml 3 m30 T.length,Sl 3 1 p87 n88 c89 (fl eJ l90),Rws 3 R_,Cl r64 [iV q53.1.1,iV q53.1.2.1,uV q53.1.2.2] 48,It kv vSv m12 r37 (rwE R_) (S.eraseIdx ix52) (some q53),Cl b [.slice p10 T.length c11,.map (some m12)] 117,Sl 50 6 p10 T.length c11 (fl eAt T),Cl b17 [.slice p21 T.length c22,.map (some m30)] 117,Sl 50 6 p21 T.length c22 (fl eAt T),R]:=hB94 _ _ _ _ _ _ l73 T.length om om h101.b.d.b.t12
 refine⟨kd [],nxN ?_⟩
 refine g0 ?_
 refine enL ?_
 have h105:=tk8 h103.i.a.i.i.i.i.x.i.t10
 change ∃n',n'<_∧_
 refine⟨(S.eraseIdx ix52).length,by omega,(S.eraseIdx ix52),(some q53),_,rfl,(fun q_ hq_=>hsub q_ (List.mem_of_mem_eraseIdx hq_)),(lvF [.k 3 (pV b17),.k 22 (pV r37)]),h105⟩
theorem oix_ht(p:Option Addr)(n c:Nat)(L:List Ky)(X:Assn)(hX:Gv X p n (fl eO L))(hL:L.length=n)(hn:n≤1000000)(x y z:Int):HT prog 432 [.slice p n c,.agg #[iV x,iV y,uV z]] [X] (fun v K=> ∃r:Int,v=iV r∧ -1≤r∧(0≤r↔(x,y,z)∈L)∧K= [X]):=by
 refine hiS func432 ntmps432 fun g w0 R h0=>g0<|nP 48 [iV x,iV y,uV z] h0 (fun r10 _ h12=> ?_)
 refine g0 ?_
 refine lpS (fun mz_ a w=> ∃i:Nat,∃lr:Fr,mz_=n-i∧(i≤n)∧(∀b∈L.take i,b≠(x,y,z))∧a=mk 19 (([(0,.slice p n c),(3,pV r10),(7,iV n),(8,iV i)]:Fr)++lr)∧sat g w [Cl r10 [iV x,iV y,uV z] 48,X,R]) (n-0) ⟨0,_,rfl,(Nat.zero_le _),(fun _ hb_=>nomatch hb_),(lvF [.k 0 (.slice p n c),.k 3 (pV r10),.k 7 (iV n),.o 8 (oJ .i64 0 (0:Int))]),h12⟩ ?_
 rintro m14 a15 w16 ⟨i,lr13,rfl,hi,hno,rfl,h17⟩
 refine ga<|go [.s 2 0] ?_
 by_cases c18:(i:Int)<(n:Int)
 ·
  refine go [.v 2 0 (oT _ c18)]<|dw (fls [0,1,2,3,4,5] Tr.nil) h17 fun _ h20=> ?_
  obtain⟨b21,off23,hp22⟩:=gv_ptr (j:=1) h20 rfl hX om
  refine go [rd 4 0 0 0 3 h20,.s 4 3]<|lw (.pointer (some ⟨b21,off23+i*3,none⟩)) (fun _=>liP (Ot 12) (Ot 13) p b21 off23 (i:Int) n c underlying514 3 i hp22 (off23+i*3)) ?_
  obtain⟨x24,hx25⟩: ∃x,L[i]? =some x:=⟨_,List.getElem?_eq_getElem (by rw[hL];omega)⟩
  refine go [.r 4 4 b21 (off23+i*3) [iV x24.1,iV x24.2.1,uV x24.2.2] ⟨gv_cell (j:=1) h20 rfl hX hp22 (fl_get eO_ok (j:=0) (v:=iV x24.1) hx25 rfl) (off23+i*3) om,gv_cell (j:=1) h20 rfl hX hp22 (fl_get eO_ok (j:=1) (v:=iV x24.2.1) hx25 rfl) (off23+i*3+1) om,gv_cell (j:=1) h20 rfl hX hp22 (fl_get eO_ok (j:=2) (v:=uV x24.2.2) hx25 rfl) (off23+i*3+2) om,trivial⟩,.s 4 5] ?_
  by_cases c26:x=x24.1
  ·
   by_cases c27:y=x24.2.1
   ·
    by_cases c28:z=x24.2.2
    ·
     refine lw (.bool true) (fun _=>seq48_eql_t (x:=Ot 11) (y:=Ot 15) x y z x24.1 x24.2.1 x24.2.2 kr kr kr ⟨om,om,om⟩ _)<|g0<|up<|g0 ?_
     exact en (iV i) [] ⟨_,_,rfl,⟨(i:Int),rfl,om,⟨fun _=>by have h_:=List.mem_of_getElem? hx25;rwa [ky_eq (a:=x24) (x:=x) (y:=y) (z:=z) om] at h_,fun _=>om⟩,rfl⟩,(tk2 (sf1 (sf2 h20.a.t3)))⟩
    refine lw (.bool false) (fun _=>seq48_eql_f (x:=Ot 11) (y:=Ot 15) x y z x24.1 x24.2.1 x24.2.2 kr kr kr om _)<|go [.v 6 0 (oIr ((i:Int)+1))] ?_
    exact enN (n-(i+1)) ⟨(i+1),_,rfl,om,(tk_ne hno hx25 (ky_ne om)),(lvF [.k 0 (.slice p n c),.k 3 (pV r10),.k 7 (iV n),.o 8 (oJ .i64 ((i:Int)+1) (((i+1):Nat):Int))]),h20⟩
   refine lw (.bool false) (fun _=>seq48_eql_f (x:=Ot 11) (y:=Ot 15) x y z x24.1 x24.2.1 x24.2.2 kr kr kr om _)<|go [.v 6 0 (oIr ((i:Int)+1))] ?_
   exact enN (n-(i+1)) ⟨(i+1),_,rfl,om,(tk_ne hno hx25 (ky_ne om)),(lvF [.k 0 (.slice p n c),.k 3 (pV r10),.k 7 (iV n),.o 8 (oJ .i64 ((i:Int)+1) (((i+1):Nat):Int))]),h20⟩
  refine lw (.bool false) (fun _=>seq48_eql_f (x:=Ot 11) (y:=Ot 15) x y z x24.1 x24.2.1 x24.2.2 kr kr kr om _)<|go [.v 6 0 (oIr ((i:Int)+1))] ?_
  exact enN (n-(i+1)) ⟨(i+1),_,rfl,om,(tk_ne hno hx25 (ky_ne om)),(lvF [.k 0 (.slice p n c),.k 3 (pV r10),.k 7 (iV n),.o 8 (oJ .i64 ((i:Int)+1) (((i+1):Nat):Int))]),h20⟩
 refine go [.v 2 0 (oF _ c18)]<|up<|g0 ?_
 exact en (iV (-1)) [] ⟨_,_,rfl,⟨-1,rfl,(by decide:(-1:Int)≤ -1),⟨fun h_=>absurd h_ dc,fun h_=>absurd h_ (tk_not hno om)⟩,rfl⟩,(tk2 (sf1 (sf2 h17.a.t3)))⟩
theorem oct_ht(p:Option Addr)(n c:Nat)(L:List Ky)(X:Assn)(hX:Gv X p n (fl eO L))(hL:L.length=n)(hn:n≤1000000)(x y z:Int):HQ 403 [.slice p n c,.agg #[iV x,iV y,uV z]] [X] (.bool (decide ((x,y,z)∈L))) [X]:=by
 refine hiS func403 ntmps403 fun g w0 R h0=>g0<|nP 48 [iV x,iV y,uV z] h0 (fun _ _ h12=> ?_)
 have h15:=h12.a.t3
 refine go [rd 1 1 0 0 3 h12]<|cP call432 (oix_ht p n c L X hX hL hn x y z) h15 ?_
 rintro v K _ (⟨r13,rfl,h14,h14b,rfl⟩) h17
 have h18:=ap1 h17
 by_cases c19:r13≥0
 ·
  refine go [.v 1 3 (oT _ c19)] ?_
  exact en (.bool true) [] ⟨_,_,rfl,⟨by rw[decide_eq_true (h14b.1 om)],rfl⟩,h18.B.t2⟩
 refine go [.v 1 3 (oF _ c19)] ?_
 exact en (.bool false) [] ⟨_,_,rfl,⟨by rw[decide_eq_false (fun h_=>absurd (h14b.2 h_) om)],rfl⟩,h18.B.t2⟩
theorem thr_mem{X:Xs}{k y z:Int}(hy:0≤y):(k,y,z)∈allK k X↔(As X)[y.toNat]? =some (1,z):=by
 unfold allK
 rw[List.mem_map]
 constructor
 · rintro⟨⟨j,g⟩,h1,h2⟩
   simp only[Prod.mk.injEq] at h2
   obtain⟨_,rfl,rfl⟩:=h2
   obtain⟨i,hi⟩:=List.getElem?_of_mem h1
   have h3:=(inS_mem hi).2
   rw[Nat.sub_zero] at h3
   rw[Int.toNat_natCast]
   exact h3
 · intro h
   have h4:=inS_at (q:=1) h rfl
   refine⟨(y.toNat,z),List.mem_of_getElem? h4,?_⟩
   simp only[Prod.mk.injEq,true_and,and_true]
   omega
theorem thr_dec{S:Wst}{k y z:Int}(h:KGood (k,y,z)):decide ((k,y,z)∈allK k (S.tab k))=decide (Thr S (k,y,z)):=by
 have h1:=thr_mem (X:=S.tab k) (k:=k) (y:=y) (z:=z) h.2.2.1
 by_cases h2:(k,y,z)∈allK k (S.tab k)
 · rw[decide_eq_true h2,decide_eq_true (show Thr S (k,y,z) from ⟨h,h1.1 h2⟩)]
 · rw[decide_eq_false h2,decide_eq_false (show ¬Thr S (k,y,z) from fun h3=>h2 (h1.2 h3.2))]
end Go.Proofs.YtcgkoffnknpgjaaGreatDoor
