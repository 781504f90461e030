/- Walks, printed by my generator ../out/a0.py. -/
import Derived.Test.YtcgkoffnknpgjaaGreatDoorProg
import Derived.Test.YtcgkoffnknpgjaaGreatDoorHq
import Derived.Test.YtcgkoffnknpgjaaGreatDoorBundle31
import Derived.Test.YtcgkoffnknpgjaaGreatDoorRws
import Derived.Test.YtcgkoffnknpgjaaGreatDoorRn2
import Derived.Test.YtcgkoffnknpgjaaGreatDoorRf4
namespace Go.Proofs.YtcgkoffnknpgjaaGreatDoor
set_option linter.unusedVariables false
set_option linter.unusedSimpArgs false
open Tryz
set_option maxHeartbeats 4000000
section
open Go.RowKit
def Sr(T b:Nat)(L:List Int):Assn:=fun h=>L.length≤2000∧ ∃x:Option Addr×Nat,star [Cl b [.bool true,.slice x.1 L.length x.2] T,Vw 3 1 x.1 L.length x.2 (fl eI L)] h
section
variable {g w : World} {A : List Assn} {T b : Nat} {L : List Int} {l : List UInt8} {p ad : Option Addr} {c : Nat}
theorem sr_open(h:sat g w (Sr T b L::A)):L.length≤2000∧ ∃p c,sat g w (Cl b [.bool true,.slice p L.length c] T::Vw 3 1 p L.length c (fl eI L)::A):=by
 obtain⟨⟨p,c⟩,hl,h1⟩:=sat_open (X:=Option Addr×Nat) (p:=fun _=>L.length≤2000) (B:=fun x=>star [Cl b [.bool true,.slice x.1 L.length x.2] T,Vw 3 1 x.1 L.length x.2 (fl eI L)]) h (fun k hk=>by
  obtain⟨h1,x,h2⟩:=hk
  exact⟨x,h1,h2⟩)
 exact⟨hl,p,c,sat_unstar h1⟩
theorem sr_close(hl:L.length≤2000)(h:sat g w (Cl b [.bool true,.slice p L.length c] T::Vw 3 1 p L.length c (fl eI L)::A)):sat g w (Sr T b L::A):=
 sat_imp (sat_star (K:= [Cl b [.bool true,.slice p L.length c] T,Vw 3 1 p L.length c (fl eI L)]) h) fun k hk=>⟨hl,(p,c),hk⟩
end
section
variable {g w : World} {A : List Assn} {T b : Nat} {L : List Int} {p : Option Addr} {c : Nat}
theorem sr_next{q:Option Addr}{b' off off':Nat}(hp:p=some ⟨b',off,none⟩)(hq:q=some ⟨b',off',none⟩)(hn:0<L.length)(ho:(if c=1 then off else off+1*1)=off')(h:sat g w (Vw 3 1 p L.length c (fl eI L)::A)):sat g w (Vw 3 1 q L.tail.length (c-1) (fl eI L.tail)::A):=by
 have h1:=vw_drop (i:=1) hp hn ho hq h
 rw[fl_drop eI_ok,tl_drop] at h1
 rw[List.length_tail]
 exact h1
end
end
set_option maxHeartbeats 4000000
theorem valid_ht(b:Nat)(v0:Value):HQ 168 [pV b] [Cl b [.bool true,v0] 288] (.bool true) [Cl b [.bool true,v0] 288]:=by
 refine hiS func168 ntmps168 fun g w0 R h0=>go [rd 1 6 0 0 1 h0] ?_
 exact enR _ [] h0
theorem clone_nil(c:Nat)(X:Assn):HT prog 109 [.slice none 0 c] [X] (fun v K=> ∃p c,v= .slice p 0 c∧K= [Sl 3 1 p 0 c (fl eI []),X]):=by
 refine hiS func109 ntmps109 fun g w0 R h0=>g0 ?_
 have h10:sat g _ (Sl 3 1 none 0 0 (fl eI [])::_):=sl_nil 3 1 h0
 exact en (.slice none 0 0) [] ⟨_,_,rfl,⟨none,0,rfl,rfl⟩,h10⟩
theorem clone_none(n c:Nat)(L:List Int)(X:Assn)(hX:Gv X none n (fl eI L))(hL:L.length=n):HT prog 109 [Value.slice none n c] [X] (fun v K=> ∃p c,v=Value.slice p n c∧K= [Sl 3 1 p n c (fl eI L),X]):=by
 have hn0:n=0∨0<n:=by omega
 rcases hn0 with hn0|hn0
 · have hl0:L= []:=List.eq_nil_of_length_eq_zero om
   subst hl0
   subst hn0
   exact clone_nil c X
 · intro g w F hs
   obtain⟨b,off,h1⟩:=gv_ptr (j:=0) hs rfl hX hn0
   cases h1
theorem clone_some(a:Addr)(p:Option Addr)(hp:p=some a)(n c:Nat)(L:List Int)(X:Assn)(hX:Gv X p n (fl eI L))(hL:L.length=n)(hn:n≤1099511627776):HT prog 109 [.slice p n c] [X] (fun v K=> ∃p c,v= .slice p n c∧K= [Sl 3 1 p n c (fl eI L),X]):=by
 refine hiS func109 ntmps109 fun g w0 R h0=>go [.s 1 1]<|lwP (.bool false) (law_sliceSome (x:=Ot 3) (y:=(Operand.const (.slice none 0 0))) (m:=n) (c:=c) kr underlying134 kr hp kr _)<|g0<|nG (fun q_=> .slice (some ⟨q_,0,none⟩) 0 0) 3 [] h0 (fun r10 w11 h12=>⟨kd [],?_⟩)
 have h13:sat g _ (Sl 3 1 (some ⟨r10,0,none⟩) 0 0 (fl eI [])::_):=sl_of_cl h12 rfl om
 refine g0 ?_
 refine actG ?_
 refine aG 7 1 (Ot 5) (Ot 6) (iV 0) (some ⟨r10,0,none⟩) p 0 0 n c 8 underlying134 h13 1 rfl (fl eI L) hX (by rw[fl_len eI_ok,hL]) (fl_one eI_ok _) n ?_
 intro p14 cap15 w16 h17
 have h18:sat g _ (Sl 3 1 p14 n cap15 (fl eI L)::_):=sI h17
 obtain⟨hn19,hn20⟩:=sl_le h18
 refine nxA<|g0 ?_
 exact en (.slice p14 n cap15) [] ⟨_,_,rfl,⟨p14,cap15,rfl,rfl⟩,h18⟩
theorem clone_ht(p:Option Addr)(n c:Nat)(L:List Int)(X:Assn)(hX:Gv X p n (fl eI L))(hL:L.length=n)(hn:n≤1099511627776):HT prog 109 [Value.slice p n c] [X] (fun v K=> ∃p c,v=Value.slice p n c∧K= [Sl 3 1 p n c (fl eI L),X]):=by
 cases p with
 |none=>exact clone_none n c L X hX hL
 |some a=>exact clone_some a _ rfl n c L X hX hL hn
theorem new_ht:HT prog 72 [] [] (fun v K=> ∃b,v=pV b∧K= [Sr 288 b []]):=by
 refine hiS func72 ntmps72 fun g w0 R h0=>g0<|nP 288 [.bool true,.slice none 0 0] h0 (fun r10 w11 h12=> ?_)
 refine g0 ?_
 have h13:sat g _ (Vw 3 1 none 0 0 (fl eI [])::_):=vw_nil 3 1 h12
 have h15:sat g _ (Sr 288 r10 []::_):=sr_close (p:=none) (c:=0) (by simp) h13.a.t3
 exact en (pV r10) [] ⟨_,_,rfl,⟨r10,rfl,rfl⟩,h15⟩
theorem next_ht(b:Nat)(L:List Int):HQ 271 [pV b] [Sr 288 b L] (iV (L.headD 1)) [Sr 288 b L.tail]:=by
 refine hiS func271 ntmps271 fun g w0 R h0=> ?_
 obtain⟨hl13,p10,cap11,h12⟩:=sr_open h0
 have h14:=h12.a.t3
 obtain⟨hn15,hn16⟩:=vw_le h14
 have h17:=h14.a.t3
 refine g0<|cl1 call168 (valid_ht b _) h17 fun w18 h19=>go [rd 3 3 0 1 1 h19,.s 3 5] ?_
 by_cases c20:(L.length:Int)=0
 ·
  refine go [.v 3 5 (qeT _ _ c20)] ?_
  have hnil_:L= []:=List.eq_nil_of_length_eq_zero om
  have h21:sat g _ (Sr 288 b L::_):=sr_close (p:=p10) (c:=cap11) om h19
  exact en (iV 1) [] ⟨_,[Sr 288 b L],rfl,⟨by rw[hnil_];rfl,by rw[hnil_];rfl⟩,h21⟩
 obtain⟨b22,off24,hp23⟩:=gv_ptr (j:=1) h19 rfl (gv_vw _ _ _) om
 refine go [.v 3 5 (qeF _ _ c20),rd 5 3 0 1 1 h19,.s 5 4]<|lwP (.pointer (some ⟨b22,off24,none⟩)) (liP (Ot 18) (Operand.const (iV 0)) p10 b22 off24 0 L.length cap11 underlying134 1 0 hp23 off24) ?_
 obtain⟨x25,hx26⟩:=gX L 0 om
 refine go [.r 5 5 b22 off24 [iV x25] ⟨gv_cell (j:=1) h19 rfl (gv_vw _ _ _) hp23 (fl_get eI_ok (j:=0) (v:=iV x25) hx26 rfl) off24 om,trivial⟩,rd 6 4 0 1 1 h19,.s 6 5]<|lwP (.slice (some ⟨b22,(if cap11=1 then off24 else off24+1),none⟩) (L.length-1) (cap11-1)) (law_sliceSlP (p:=p10) (x:=Ot 25) (lo:=(some (Operand.const (iV 1)))) (hi:=none) (b:=b22) (off:=off24) (m:=L.length) (c:=cap11) kr underlying134 1 kr 1 (L.length:Int) 1 L.length kr hp23 (show fe _ _ (Operand.const (iV 1))=_ from by kernel_rfl) rfl om om om om (if cap11=1 then off24 else off24+1) (ite_r om) (L.length-1) (cap11-1) om om _)<|g0<|sP [(1,.slice (some ⟨b22,(if cap11=1 then off24 else off24+1),none⟩) (L.length-1) (cap11-1))] [.bool true,.slice (some ⟨b22,(if cap11=1 then off24 else off24+1),none⟩) (L.length-1) (cap11-1)] h19 fun w27 h28=>g0 ?_
 have h29:=h28.a.t3
 obtain⟨q30,hq31⟩: ∃q:Option Addr,q=some ⟨b22,(if cap11=1 then off24 else off24+1),none⟩:=⟨_,rfl⟩
 have h32:sat g w27 [Vw 3 1 q30 L.tail.length (cap11-1) (fl eI L.tail),Cl b [.bool true,.slice q30 L.tail.length (cap11-1)] 288,R]:=by
  have h_:=sr_next hp23 hq31 om (by first|rfl |(split<;>omega)) h29
  rw[←hq31,←List.length_tail] at h_
  exact h_
 have h34:sat g _ (Sr 288 b L.tail::_):=sr_close (p:=q30) (c:=(cap11-1)) (by rw[List.length_tail];omega) h32.a.t3
 exact en (iV x25) [] ⟨_,_,rfl,⟨congrArg (Value.int .i64) (hd_tl hx26).symm,rfl⟩,h34⟩
theorem copy_ht(b:Nat)(L:List Int):HT prog 105 [pV b] [Sr 288 b L] (fun v K=> ∃b2,v=pV b2∧K= [Sr 288 b2 L,Sr 288 b L]):=by
 refine hiS func105 ntmps105 fun g w0 R h0=> ?_
 obtain⟨hl13,p10,cap11,h12⟩:=sr_open h0
 have h14:=h12.a.t3
 obtain⟨hn15,hn16⟩:=vw_le h14
 have h17:=h14.a.t3
 refine g0<|cl1 call168 (valid_ht b _) h17 fun _ h19=> ?_
 have h22:=h19.a.t3
 refine go [rd 3 3 0 1 1 h19]<|cP call109 (clone_ht p10 L.length cap11 L (Vw 3 1 p10 L.length cap11 (fl eI L)) (gv_vw _ _ _) rfl om) h22 ?_
 rintro v K _ (⟨p20,cap21,rfl,rfl⟩) h24
 have h25:=ap2 h24
 obtain⟨hn26,hn27⟩:=sl_le h25
 refine g0<|nP 288 [.bool true,.slice p20 L.length cap21] h25 (fun r28 w29 h30=> ?_)
 refine g0 ?_
 have h32:sat g _ (Sr 288 b L::_):=sr_close (p:=p10) (c:=cap11) om h30.b.c.t5
 have h34:sat g _ (Vw 3 1 p20 L.length cap21 (fl eI L)::_):=vw_sl h32.b.t4
 have h36:sat g _ (Sr 288 r28 L::_):=sr_close (p:=p20) (c:=cap21) om h34.b.t4
 exact en (pV r28) [] ⟨_,_,rfl,⟨r28,rfl,rfl⟩,h36⟩
structure At where
 at_:Int
 out:Ky
 why:Int
 ans:Int
def eAt(a:At):List Value:= [iV a.at_,iV a.out.1,iV a.out.2.1,uV a.out.2.2,iV a.why,iV a.ans]
theorem eAt_ok:Enc 6 eAt:=⟨fun _=>rfl,fun x v hv=>by simp[eAt] at hv;rcases hv with rfl |rfl |rfl |rfl |rfl |rfl<;>rfl⟩
def outE(o:Ky):Int:=if 1≤o.1∧o.1≤3∧0≤o.2.1∧o.2.1≤63∧1≤o.2.2 then 0 else 2
def attP(a:At):Prop:=0≤a.at_∧a.at_≤1099511627776∧outE a.out=0∧1≤a.why∧a.why≤3∧1≤a.ans∧a.ans≤3
instance (a:At):Decidable (attP a):=by unfold attP;infer_instance
def attE(a:At):Int:=if attP a then 0 else 2
theorem outE_iff{o:Ky}:outE o=0↔1≤o.1∧o.1≤3∧0≤o.2.1∧o.2.1≤63∧1≤o.2.2:=by
 unfold outE
 split
 · exact⟨fun _=> ‹_›,fun _=>rfl⟩
 · exact⟨fun h=>absurd h dc,fun h=>absurd h ‹_›⟩
theorem kgood_iff{o:Ky}:outE o=0↔KGood o:=outE_iff
def fre(X:Xs):Option (Nat×Int):=(inS 0 (As X) 0)[0]?
theorem fre_some{X:Xs}{i:Nat}{g:Int}(h:fre X=some (i,g)): ∃v,X[i]? =some (0,g,v):=by
 have h1:=(inS_mem h).2
 rw[Nat.sub_zero] at h1
 unfold As at h1
 rw[List.getElem?_map,Option.map_eq_some_iff] at h1
 obtain⟨⟨a,b,c⟩,h2,h3⟩:=h1
 simp only[sl2,Prod.mk.injEq] at h3
 obtain⟨rfl,rfl⟩:=h3
 exact⟨c,h2⟩
theorem fre_none{X:Xs}:fre X=none↔(inS 0 (As X) 0).length=0:=by
 unfold fre
 rw[List.getElem?_eq_none_iff]
 omega
theorem fre_pos{X:Xs}(h:0<(inS 0 (As X) 0).length):fre X=some (((inS 0 (As X) 0).getD 0 (0,0)).1,((inS 0 (As X) 0).getD 0 (0,0)).2):=by
 unfold fre
 rw[List.getElem?_eq_getElem h,getD_some (List.getElem?_eq_getElem h)]
def grw(X:Xs)(v:Int):Xs:=match fre X with
 |none=>X
 |some (i,g)=>X.set i (1,g,v)
def nam(k:Int)(X:Xs):Ky:=match fre X with
 |none=>(0,0,0)
 |some (i,g)=>(k,(i:Int),g)
def allK(k:Int)(X:Xs):List Ky:=(inS 1 (As X) 0).map fun r=>(k,(r.1:Int),r.2)
def used(X:Xs):Int:=(X.map fun x=>if x.1=1 then x.2.2 else 0).sum
def giv(X:Xs)(o:Ky):Xs:=X.set o.2.1.toNat (shut o.2.2)
def Vals(X:Xs)(V:List Int):Prop:=V.length=64∧ ∀(i:Nat) (g v:Int),X[i]? =some (1,g,v)→V[i]? =some v
theorem vals_new{n:Nat}{g:Int}:Vals (List.replicate n (0,g,0)) (List.replicate 64 0):=⟨List.length_replicate,fun i a v h=>by
 have:=List.eq_of_mem_replicate (List.mem_of_getElem? h)
 simp only[Prod.mk.injEq] at this
 exact absurd this.1 dc⟩
theorem vals_open{X:Xs}{V:List Int}{q:Nat}{g v:Int}(h:Vals X V)(hq:q<64):Vals (X.set q (1,g,v)) (V.set q v):=⟨by rw[List.length_set];exact h.1,fun i a u hi=>by
 rcases set_cases hi with ⟨rfl,h2⟩|⟨h1,h2⟩
 · simp only[Prod.mk.injEq] at h2
   obtain⟨_,rfl,rfl⟩:=h2
   exact List.getElem?_set_self (by rw[h.1];exact hq)
 · rw[List.getElem?_set_ne (fun e=>h1 e.symm)]
   exact h.2 i a u h2⟩
theorem vals_shut{X:Xs}{V:List Int}{q:Nat}{e g v:Int}(h:Vals X V)(he:e≠1):Vals (X.set q (e,g,v)) V:=⟨h.1,fun i a u hi=>by
 rcases set_cases hi with ⟨rfl,h2⟩|⟨h1,h2⟩
 · simp only[Prod.mk.injEq] at h2
   exact absurd h2.1.symm he
 · exact h.2 i a u h2⟩
theorem shut_st(z:Int):(shut z).1≠1:=by
 unfold shut
 split
 · exact(by decide:(0:Int)≠1)
 · exact(by decide:(2:Int)≠1)
theorem vals_giv{X:Xs}{V:List Int}(o:Ky)(h:Vals X V):Vals (giv X o) V:=by
 have h1:=shut_st o.2.2
 unfold giv
 generalize shut o.2.2=q at h1 ⊢
 exact vals_shut (e:=q.1) (g:=q.2.1) (v:=q.2.2) h h1
theorem vals_off{X:Xs}{V:List Int}(o:Ky)(u:Int)(h:Vals X V):Vals (giv X o) (V.set o.2.1.toNat u):=by
 have h1:=vals_giv o h
 refine⟨by rw[List.length_set];exact h.1,fun i a v hi=> ?_⟩
 rcases set_cases (show (X.set o.2.1.toNat (shut o.2.2))[i]? =some (1,a,v) from hi) with ⟨rfl,h2⟩|⟨h3,h2⟩
 · exact absurd (congrArg Prod.fst h2).symm (shut_st _)
 · rw[List.getElem?_set_ne (fun e=>h3 e.symm)]
   exact h1.2 i a v hi
structure Wst where
 F:Xs
 B:Xs
 D:Xs
 q:List Int
 T:List At
 now:Int
def Wst.tab(S:Wst)(k:Int):Xs:=if k=1 then S.F else if k=2 then S.B else S.D
def Wst.put(S:Wst)(k:Int)(X:Xs):Wst:=if k=1 then {S with F:=X} else if k=2 then {S with B:=X} else {S with D:=X}
def wnew(g:Int):Wst:=⟨List.replicate 64 (0,g,0),List.replicate 64 (0,g,0),List.replicate 64 (0,g,0),[],[],0⟩
def Thr(S:Wst)(o:Ky):Prop:=KGood o∧(As (S.tab o.1))[o.2.1.toNat]? =some (1,o.2.2)
instance (S:Wst) (o:Ky):Decidable (Thr S o):=by unfold Thr;infer_instance
def godP(k a:Int):Prop:=(k=1∧0≤a∧a≤65535)∨(k=2∧1≤a∧a≤65536)∨(k=3∧1≤a∧a≤1048576)
instance (k a:Int):Decidable (godP k a):=by unfold godP;infer_instance
def grwE(S:Wst)(k a:Int):Int:=if k=2∧1048576<used S.B+a then 4 else if k=3∧1099511627776-a<S.now then 17 else if fre (S.tab k)=none then 4 else 0
def valO(S:Wst)(k a:Int):Int:=if k=3 then S.now+a else a
def acqE(S:Wst)(k a:Int):Int:=if ¬godP k a then 2 else if grwE S k a≠0 then grwE S k a else if S.q.headD 1=2 then 15 else if S.q.headD 1=3 then 14 else 0
def acqO(S:Wst)(k a:Int):Ky:=if acqE S k a=0 then nam k (S.tab k) else (0,0,0)
def acqS(S:Wst)(k a:Int):Wst:=if ¬godP k a∨grwE S k a≠0 then S else if acqE S k a=0 then ({S with q:=S.q.tail}:Wst).put k (grw (S.tab k) (valO S k a)) else {S with q:=S.q.tail}
def relE(S:Wst)(o:Ky)(y:Int):Int:=if ¬KGood o∨y<1∨3<y then 2 else if ¬Thr S o then 5 else if 10000≤S.T.length then 4 else 0
def relA(S:Wst)(o:Ky)(y:Int):Int:=if relE S o y=0 then S.q.headD 1 else 0
def relS(S:Wst)(o:Ky)(y:Int):Wst:=if relE S o y≠0 then S else if S.q.headD 1=1 then ({S with q:=S.q.tail,T:=S.T++ [⟨S.now,o,y,S.q.headD 1⟩]}:Wst).put o.1 (giv (S.tab o.1) o) else {S with q:=S.q.tail,T:=S.T++ [⟨S.now,o,y,S.q.headD 1⟩]}
section
def Sok(A:List Sl2):Prop:= ∀s∈A,0≤s.1∧s.1≤2∧1≤s.2∧s.2≤4294967295
def Bnd(X:Xs):Prop:= ∀x∈X,x.1=1→0≤x.2.2∧x.2.2≤65536
structure WOk (S:Wst):Prop where
 fl:S.F.length=64
 bl:S.B.length=64
 dl:S.D.length=64
 fk:Sok (As S.F)
 bk:Sok (As S.B)
 dk:Sok (As S.D)
 bb:Bnd S.B
 qb: ∀a∈S.q,1≤a∧a≤3
 qn:S.q.length≤2000
 nl:0≤S.now
 nh:S.now≤1099511627776
 ta: ∀a∈S.T,a.at_≤S.now
 tp: ∀a∈S.T,attP a
 tn:S.T.length≤10000
section
variable {X : Xs} {S : Wst}
theorem slk_set{q:Nat}{y:Fl}(h:Sok (As X))(hy:0≤y.1∧y.1≤2∧1≤y.2.1∧y.2.1≤4294967295):Sok (As (X.set q y)):=by
 rw[as_set]
 intro s hs
 rcases List.mem_or_eq_of_mem_set hs with h1|rfl
 · exact h s h1
 · exact hy
theorem slk_rep{n:Nat}{g:Int}(h:1≤g∧g≤4294967295):Sok (As (List.replicate n (0,g,0))):=by
 intro s hs
 unfold As at hs
 rw[List.map_replicate] at hs
 rw[List.eq_of_mem_replicate hs]
 exact⟨by show (0:Int)≤0;decide,by show (0:Int)≤2;decide,h.1,h.2⟩
theorem sht_ok{z:Int}(h:1≤z∧z≤4294967295):0≤(shut z).1∧(shut z).1≤2∧1≤(shut z).2.1∧(shut z).2.1≤4294967295:=by
 unfold shut
 split
 · exact⟨by show (0:Int)≤0;decide,by show (0:Int)≤2;decide,by show 1≤z+1;omega,by show z+1≤4294967295;omega⟩
 · exact⟨by show (0:Int)≤2;decide,by show (2:Int)≤2;decide,h.1,h.2⟩
theorem as_at{i:Nat}{s:Sl2}(h:(As X)[i]? =some s): ∃v,X[i]? =some (s.1,s.2,v):=by
 unfold As at h
 rw[List.getElem?_map,Option.map_eq_some_iff] at h
 obtain⟨⟨a,b,c⟩,h2,h3⟩:=h
 subst h3
 exact⟨c,h2⟩
theorem grw_len(X:Xs)(v:Int):(grw X v).length=X.length:=by
 unfold grw
 split
 · rfl
 · exact List.length_set
theorem giv_len(X:Xs)(o:Ky):(giv X o).length=X.length:=List.length_set
theorem grw_ok(h:Sok (As X))(v:Int):Sok (As (grw X v)):=by
 unfold grw
 split
 · exact h
 · rename_i i g hf
   obtain⟨u,hu⟩:=fre_some hf
   have:=h _ (List.mem_of_getElem? (as_get hu))
   exact slk_set h ⟨by show (0:Int)≤1;decide,by show (1:Int)≤2;decide,this.2.2.1,this.2.2.2⟩
theorem giv_ok(h:Sok (As X)){o:Ky}(ho:(As X)[o.2.1.toNat]? =some (1,o.2.2)):Sok (As (giv X o)):=by
 have:=h _ (List.mem_of_getElem? ho)
 exact slk_set h (sht_ok ⟨this.2.2.1,this.2.2.2⟩)
theorem grw_bnd(h:Bnd X){v:Int}(hv:0≤v∧v≤65536):Bnd (grw X v):=by
 unfold grw
 split
 · exact h
 · intro x hx h1
   rcases List.mem_or_eq_of_mem_set hx with hx|rfl
   · exact h x hx h1
   · exact hv
theorem giv_bnd(h:Bnd X)(o:Ky):Bnd (giv X o):=fun x hx h1=>by
 rcases List.mem_or_eq_of_mem_set hx with hx|rfl
 · exact h x hx h1
 · exact absurd h1 (shut_st _)
theorem rep_bnd{n:Nat}{g:Int}:Bnd (List.replicate n (0,g,0)):=fun x hx h1=>by
 rw[List.eq_of_mem_replicate hx] at h1
 exact absurd h1 (by show ¬(0:Int)=1;decide)
theorem used_bd: ∀ {X:Xs},Bnd X→0≤used X∧used X≤65536*(X.length:Int)
 | [],_=>⟨Int.le_refl _,by show (0:Int)≤_;simp⟩
 |x::X,h=>by
  obtain⟨h1,h2⟩:=used_bd (X:=X) fun y hy=>h y (List.mem_cons_of_mem _ hy)
  have h3:=h x List.mem_cons_self
  unfold used at h1 h2 ⊢
  rw[List.map_cons,List.sum_cons,List.length_cons]
  by_cases hx:x.1=1
  · rw[if_pos hx]
    have:=h3 hx
    omega
  · rw[if_neg hx]
    omega
theorem headD_bd{q:List Int}(h: ∀a∈q,1≤a∧a≤3):1≤q.headD 1∧q.headD 1≤3:=by
 cases q with
 |nil=>decide
 |cons a q=>exact h a List.mem_cons_self
theorem tail_bd{q:List Int}(h: ∀a∈q,1≤a∧a≤3): ∀a∈q.tail,1≤a∧a≤3:=fun a ha=>h a (List.mem_of_mem_tail ha)
theorem wok_new{g:Int}(h:1≤g∧g≤4294967295):WOk (wnew g) where
 fl:=List.length_replicate
 bl:=List.length_replicate
 dl:=List.length_replicate
 fk:=slk_rep h
 bk:=slk_rep h
 dk:=slk_rep h
 bb:=rep_bnd
 qb a ha:=by cases ha
 qn:=Nat.zero_le _
 nl:=Int.le_refl _
 nh:=(by decide:(0:Int)≤1099511627776)
 ta a ha:=by cases ha
 tp a ha:=by cases ha
 tn:=Nat.zero_le _
theorem wok_tl(h:WOk S):WOk {S with q:=S.q.tail}:= {h with qb:=tail_bd h.qb,qn:=by show S.q.tail.length≤2000;rw[List.length_tail];have:=h.qn;omega}
theorem godP_k{k a:Int}(h:godP k a):k=1∨k=2∨k=3:=by
 unfold godP at h
 omega
theorem put1(S:Wst)(X:Xs):S.put 1 X= {S with F:=X}:=rfl
theorem put2(S:Wst)(X:Xs):S.put 2 X= {S with B:=X}:=rfl
theorem put3(S:Wst)(X:Xs):S.put 3 X= {S with D:=X}:=rfl
theorem tab1(S:Wst):S.tab 1=S.F:=rfl
theorem tab2(S:Wst):S.tab 2=S.B:=rfl
theorem tab3(S:Wst):S.tab 3=S.D:=rfl
theorem wok_acq(h:WOk S)(k a:Int):WOk (acqS S k a):=by
 unfold acqS
 split
 · exact h
 · rename_i hc
   split
   · have hg:godP k a:=by
      rcases Classical.em (godP k a) with q|q
      · exact q
      · exact absurd (.inl q) hc
     have h1:=wok_tl h
     rcases godP_k hg with rfl |rfl |rfl
     · rw[put1,tab1]
       exact {h1 with fl:=(grw_len _ _).trans h.fl,fk:=grw_ok h.fk _}
     · rw[put2,tab2]
       refine {h1 with bl:=(grw_len _ _).trans h.bl,bk:=grw_ok h.bk _,bb:=grw_bnd h.bb ?_}
       unfold valO
       rw[if_neg dc]
       unfold godP at hg
       omega
     · rw[put3,tab3]
       exact {h1 with dl:=(grw_len _ _).trans h.dl,dk:=grw_ok h.dk _}
   · exact wok_tl h
theorem rel_zero{o:Ky}{y:Int}(h:relE S o y=0):KGood o∧1≤y∧y≤3∧Thr S o∧S.T.length<10000:=by
 unfold relE at h
 split at h
 · exact absurd h dc
 · rename_i h1
   split at h
   · exact absurd h dc
   · rename_i h2
     split at h
     · exact absurd h dc
     · simp only[not_or,Decidable.not_not] at h1 h2
       exact⟨h1.1,by omega,by omega,h2,by omega⟩
theorem kgood_k{o:Ky}(h:KGood o):o.1=1∨o.1=2∨o.1=3:=by
 have:=h.1
 have:=h.2.1
 omega
theorem wok_add(h:WOk S){a:At}(ha:a.at_=S.now)(hp:attP a)(hn:S.T.length<10000):WOk {S with q:=S.q.tail,T:=S.T++ [a]}:=
 {wok_tl h with
  ta:=fun b hb=>by
   rcases List.mem_append.1 hb with hb|hb
   · exact h.ta b hb
   · rw[List.mem_singleton.1 hb,ha];exact Int.le_refl _
  tp:=fun b hb=>by
   rcases List.mem_append.1 hb with hb|hb
   · exact h.tp b hb
   · rw[List.mem_singleton.1 hb];exact hp
  tn:=by show (S.T++ [a]).length≤10000;rw[List.length_append];exact hn}
theorem rel_att(h:WOk S){o:Ky}{y:Int}(he:relE S o y=0):attP ⟨S.now,o,y,S.q.headD 1⟩:=by
 obtain⟨h1,h2,h3,_,_⟩:=rel_zero he
 have:=headD_bd h.qb
 exact⟨h.nl,h.nh,kgood_iff.2 h1,h2,h3,this.1,this.2⟩
theorem wok_rel(h:WOk S)(o:Ky)(y:Int):WOk (relS S o y):=by
 unfold relS
 split
 · exact h
 · rename_i hc
   have he:relE S o y=0:=Decidable.not_not.1 hc
   obtain⟨h1,h2,h3,h4,h5⟩:=rel_zero he
   have h6:=wok_add (a:=⟨S.now,o,y,S.q.headD 1⟩) h rfl (rel_att h he) h5
   split
   · obtain⟨_,ht⟩:=h4
     obtain⟨k,i,g⟩:=o
     rcases kgood_k h1 with hk|hk|hk<;>(have hk':k=_:=hk;subst hk')
     · rw[put1,tab1]
       exact {h6 with fl:=(giv_len _ _).trans h.fl,fk:=giv_ok h.fk ht}
     · rw[put2,tab2]
       exact {h6 with bl:=(giv_len _ _).trans h.bl,bk:=giv_ok h.bk ht,bb:=giv_bnd h.bb _}
     · rw[put3,tab3]
       exact {h6 with dl:=(giv_len _ _).trans h.dl,dk:=giv_ok h.dk ht}
   · exact h6
end
end
section
def slI(X:Xs)(i:Nat):Nat:=((inS 1 (As X) 0).getD i (0,0)).1
def slG(X:Xs)(i:Nat):Int:=((inS 1 (As X) 0).getD i (0,0)).2
def vaA(X:Xs)(q:Nat):Int:=(X.getD q (0,0,0)).2.2
theorem sl_at{X:Xs}{i:Nat}(h:i<(inS 1 (As X) 0).length):(As X)[slI X i]? =some (1,slG X i):=inS_get h
theorem sl_lt{X:Xs}{i:Nat}(h:i<(inS 1 (As X) 0).length):slI X i<X.length:=by
 have:=(List.getElem?_eq_some_iff.1 (sl_at h)).1
 rwa [as_len] at this
theorem vals_at{X:Xs}{V:List Int}{q:Nat}{g v:Int}(hV:Vals X V)(h:(As X)[q]? =some (1,g))(hv:V[q]? =some v):v=vaA X q:=by
 obtain⟨u,hu⟩:=as_at h
 have h1:=hV.2 q g u hu
 rw[hv] at h1
 unfold vaA
 rw[getD_some hu]
 exact Option.some.inj h1
def useT(X:Xs)(i:Nat):Int:=((inS 1 (As X) 0).take i).foldl (fun s r=>s+vaA X r.1) 0
theorem useT_go{X:Xs}{i:Nat}(h:i<(inS 1 (As X) 0).length):useT X (i+1)=useT X i+vaA X (slI X i):=by
 unfold useT slI
 rw[List.take_add_one,List.getElem?_eq_getElem h,List.foldl_append,getD_some (List.getElem?_eq_getElem h)]
 rfl
theorem vaA_cons(x:Fl)(X:Xs)(q:Nat):vaA (x::X) (q+1)=vaA X q:=rfl
theorem use_all: ∀(X Y:Xs) (k:Nat) (s:Int),(∀q,vaA Y (k+q)=vaA X q)→(inS 1 (As X) k).foldl (fun s r=>s+vaA Y r.1) s=s+used X
 | [],Y,k,s,_=>by simp[inS,As,used]
 |x::X,Y,k,s,h=>by
  have h1:=use_all X Y (k+1)
  have h2: ∀q,vaA Y (k+1+q)=vaA X q:=fun q=>by
   have:=h (q+1)
   rw[vaA_cons] at this
   rw[←this]
   congr 1
   omega
  show (inS 1 (sl2 x::As X) k).foldl _ s=_
  have h0:vaA Y k=x.2.2:=h 0
  by_cases hx:x.1=1
  · have e:inS 1 (sl2 x::As X) k=(k,x.2.1)::inS 1 (As X) (k+1):=by
     show (if (sl2 x).1=1 then _ else _)=_
     rw[if_pos (show (sl2 x).1=1 from hx)]
     rfl
    rw[e,List.foldl_cons,h1 _ h2,h0]
    unfold used
    rw[List.map_cons,List.sum_cons,if_pos hx]
    omega
  · have e:inS 1 (sl2 x::As X) k=inS 1 (As X) (k+1):=by
     show (if (sl2 x).1=1 then _ else _)=_
     rw[if_neg (show ¬(sl2 x).1=1 from hx)]
    rw[e,h1 _ h2]
    unfold used
    rw[List.map_cons,List.sum_cons,if_neg hx]
    omega
theorem useT_all(X:Xs):useT X (inS 1 (As X) 0).length=used X:=by
 unfold useT
 rw[List.take_length,use_all X X 0 0 (fun q=>by rw[Nat.zero_add])]
 omega
theorem vaA_bd{X:Xs}(h:Bnd X){q:Nat}{g:Int}(hq:(As X)[q]? =some (1,g)):0≤vaA X q∧vaA X q≤65536:=by
 obtain⟨u,hu⟩:=as_at hq
 unfold vaA
 rw[getD_some hu]
 exact h _ (List.mem_of_getElem? hu) rfl
theorem useT_bd{X:Xs}(h:Bnd X): ∀i:Nat,i≤(inS 1 (As X) 0).length→0≤useT X i∧useT X i≤65536*(i:Int)
 |0,_=>⟨Int.le_refl _,Int.le_refl _⟩
 |i+1,hi=>by
  have h1:=useT_bd h i om
  have h2:=vaA_bd h (sl_at (X:=X) (i:=i) om)
  rw[useT_go om]
  omega
theorem allK_take{X:Xs}{k:Int}{i:Nat}(h:i<(inS 1 (As X) 0).length):(allK k X).take i++ [(k,(slI X i:Int),slG X i)]=(allK k X).take (i+1):=by
 have h1:(inS 1 (As X) 0)[i]? =some (slI X i,slG X i):=by
  unfold slI slG
  rw[List.getElem?_eq_getElem h,getD_some (List.getElem?_eq_getElem h)]
 have h2:(allK k X)[i]? =some (k,(slI X i:Int),slG X i):=by
  unfold allK
  rw[List.getElem?_map,h1]
  rfl
 rw[List.take_add_one,h2]
 rfl
theorem allK_len(k:Int)(X:Xs):(allK k X).length=(inS 1 (As X) 0).length:=List.length_map _
def tkE(X:Xs):Int:=if fre X=none then 4 else 0
def pinE(X:Xs)(v:Int):Int:=if 1048576<used X+v then 4 else tkE X
def pinX(X:Xs)(v:Int):Xs:=if pinE X v=0 then grw X v else X
def pinO(X:Xs)(v:Int):Ky:=if pinE X v=0 then nam 2 X else (0,0,0)
def gntE(X:Xs)(t now:Int):Int:=if 1099511627776-t<now then 17 else tkE X
def gntX(X:Xs)(t now:Int):Xs:=if gntE X t now=0 then grw X (now+t) else X
def gntO(X:Xs)(t now:Int):Ky:=if gntE X t now=0 then nam 3 X else (0,0,0)
section
variable {X : Xs} {v t now : Int}
theorem take_full(h:(takeV (As X)).2.2≠0):tkE X=4∧(takeV (As X)).2.2=4∧takeA (As X)=As X:=by
 rcases Nat.eq_zero_or_pos (inS 0 (As X) 0).length with h0|h0
 · exact⟨if_pos (fre_none.2 h0),by rw[(take_none h0).1],(take_none h0).2⟩
 · exact absurd (by rw[(take_some h0).1]) h
theorem take_free(h:(takeV (As X)).2.2=0):tkE X=0∧ ∃i g u,fre X=some (i,g)∧X[i]? =some (0,g,u)∧(takeV (As X)).1=(i:Int)∧(takeV (As X)).2.1=g∧takeA (As X)=As (X.set i (1,g,v)):=by
 rcases Nat.eq_zero_or_pos (inS 0 (As X) 0).length with h0|h0
 · rw[(take_none h0).1] at h
   exact absurd h dc
 · have h1:=fre_pos h0
   obtain⟨u,hu⟩:=fre_some h1
   refine⟨if_neg (by rw[h1];exact fun q=>nomatch q),_,_,u,h1,hu,by rw[(take_some h0).1],by rw[(take_some h0).1],?_⟩
   rw[(take_some h0).2,as_set]
theorem pin_much(h:1048576<used X+v):pinE X v=4∧pinO X v=(0,0,0)∧pinX X v=X:=by
 have e:pinE X v=4:=if_pos h
 exact⟨e,if_neg (by rw[e];decide),if_neg (by rw[e];decide)⟩
theorem pin_full(h: ¬1048576<used X+v)(ht:tkE X=4):pinE X v=4∧pinO X v=(0,0,0)∧pinX X v=X:=by
 have e:pinE X v=4:=(if_neg h).trans ht
 exact⟨e,if_neg (by rw[e];decide),if_neg (by rw[e];decide)⟩
theorem pin_ok{i:Nat}{g:Int}(h: ¬1048576<used X+v)(hf:fre X=some (i,g)):pinE X v=0∧pinO X v=(2,(i:Int),g)∧pinX X v=X.set i (1,g,v):=by
 have e:pinE X v=0:=(if_neg h).trans (if_neg (by rw[hf];exact fun q=>nomatch q))
 refine⟨e,(if_pos e).trans ?_,(if_pos e).trans ?_⟩
 · unfold nam;rw[hf]
 · unfold grw;rw[hf]
theorem gnt_over(h:1099511627776-t<now):gntE X t now=17∧gntO X t now=(0,0,0)∧gntX X t now=X:=by
 have e:gntE X t now=17:=if_pos h
 exact⟨e,if_neg (by rw[e];decide),if_neg (by rw[e];decide)⟩
theorem gnt_full(h: ¬1099511627776-t<now)(ht:tkE X=4):gntE X t now=4∧gntO X t now=(0,0,0)∧gntX X t now=X:=by
 have e:gntE X t now=4:=(if_neg h).trans ht
 exact⟨e,if_neg (by rw[e];decide),if_neg (by rw[e];decide)⟩
theorem gnt_ok{i:Nat}{g:Int}(h: ¬1099511627776-t<now)(hf:fre X=some (i,g)):gntE X t now=0∧gntO X t now=(3,(i:Int),g)∧gntX X t now=X.set i (1,g,now+t):=by
 have e:gntE X t now=0:=(if_neg h).trans (if_neg (by rw[hf];exact fun q=>nomatch q))
 refine⟨e,(if_pos e).trans ?_,(if_pos e).trans ?_⟩
 · unfold nam;rw[hf]
 · unfold grw;rw[hf]
theorem pl_set{V:List Int}{i:Nat}{g:Int}(h:X.length=64∧Bnd X∧Vals X V)(hi:i<64)(hv:0≤v∧v≤65536):(X.set i (1,g,v)).length=64∧Bnd (X.set i (1,g,v))∧Vals (X.set i (1,g,v)) (V.set i v):=
 ⟨List.length_set.trans h.1,fun x hx h1=>by
  rcases List.mem_or_eq_of_mem_set hx with hx|rfl
  · exact h.2.1 x hx h1
  · exact hv,vals_open h.2.2 hi⟩
theorem dk_set{V:List Int}{i:Nat}{g:Int}(h:X.length=64∧Vals X V)(hi:i<64):(X.set i (1,g,v)).length=64∧Vals (X.set i (1,g,v)) (V.set i v):=⟨List.length_set.trans h.1,vals_open h.2 hi⟩
theorem vals_off2{V:List Int}{o:Ky}{q:Nat}{u:Int}(h:Vals X V)(hq:o.2.1=(q:Int)):Vals (giv X o) (V.set q u):=by
 have:=vals_off o u h
 rwa [hq,Int.toNat_natCast] at this
theorem pl_giv{V:List Int}{o:Ky}{q:Nat}{u:Int}(h:X.length=64∧Bnd X∧Vals X V)(hq:o.2.1=(q:Int)):(giv X o).length=64∧Bnd (giv X o)∧Vals (giv X o) (V.set q u):=⟨(giv_len X o).trans h.1,giv_bnd h.2.1 o,vals_off2 h.2.2 hq⟩
theorem dk_giv{V:List Int}{o:Ky}(h:X.length=64∧Vals X V):(giv X o).length=64∧Vals (giv X o) V:=⟨(giv_len X o).trans h.1,vals_giv o h.2⟩
theorem as_rep(n:Nat)(g v:Int):List.replicate n (0,g)=As (List.replicate n (0,g,v)):=by
 unfold As
 rw[List.map_replicate]
 rfl
theorem giveA_giv(X:Xs)(o:Ky){q:Nat}(h:o.2.1=(q:Int)):giveA (As X) q o.2.2=As (giv X o):=by
 unfold giv
 rw[h,Int.toNat_natCast]
 exact giveA_as X q o.2.2
end
theorem erase_len{α:Type}{L:List α}{k:Nat}{x:α}(h:L[k]? =some x):(L.eraseIdx k).length+1=L.length:=by
 have:=(List.getElem?_eq_some_iff.1 h).1
 rw[List.length_eraseIdx,if_pos this]
 omega
theorem ky_eq{a:Ky}{x y z:Int}(h:a.1=x∧a.2.1=y∧a.2.2=z):a=(x,y,z):=by
 obtain⟨a,b,c⟩:=a
 obtain⟨rfl,rfl,rfl⟩:=h
 rfl
theorem ky_ne{a:Ky}{x y z:Int}(h: ¬(a.1=x∧a.2.1=y∧a.2.2=z)):a≠(x,y,z):=fun e=>h (by subst e;exact⟨rfl,rfl,rfl⟩)
theorem tk_ne{L:List Ky}{i:Nat}{a o:Ky}(h: ∀b∈L.take i,b≠o)(ha:L[i]? =some a)(hn:a≠o): ∀b∈L.take (i+1),b≠o:=fun b hb=>by
 rw[List.take_add_one,ha] at hb
 rcases List.mem_append.1 hb with hb|hb
 · exact h b hb
 · rw[Option.toList_some,List.mem_singleton] at hb
   rw[hb]
   exact hn
theorem tk_not{L:List Ky}{i:Nat}{o:Ky}(h: ∀b∈L.take i,b≠o)(hi:L.length≤i): ¬o∈L:=fun ho=>h o (by rw[List.take_of_length_le hi];exact ho) rfl
theorem lget{V:List Int}{n:Nat}(h:V.length=n):V=(List.range n).map fun i=>V.getD i 0:=by
 apply List.ext_getElem?
 intro i
 rw[List.getElem?_map]
 rcases Nat.lt_or_ge i n with hi|hi
 · rw[List.getElem?_range hi,List.getElem?_eq_getElem om]
   show _=some (V.getD i 0)
   rw[getD_some (List.getElem?_eq_getElem om)]
 · rw[List.getElem?_eq_none om,List.getElem?_eq_none (by rw[List.length_range];exact hi)]
   rfl
theorem vlit{V:List Int}(h:V.length=64):fl eI V= [iV (V.getD 0 0),iV (V.getD 1 0),iV (V.getD 2 0),iV (V.getD 3 0),iV (V.getD 4 0),iV (V.getD 5 0),iV (V.getD 6 0),iV (V.getD 7 0),iV (V.getD 8 0),iV (V.getD 9 0),iV (V.getD 10 0),iV (V.getD 11 0),iV (V.getD 12 0),iV (V.getD 13 0),iV (V.getD 14 0),iV (V.getD 15 0),iV (V.getD 16 0),iV (V.getD 17 0),iV (V.getD 18 0),iV (V.getD 19 0),iV (V.getD 20 0),iV (V.getD 21 0),iV (V.getD 22 0),iV (V.getD 23 0),iV (V.getD 24 0),iV (V.getD 25 0),iV (V.getD 26 0),iV (V.getD 27 0),iV (V.getD 28 0),iV (V.getD 29 0),iV (V.getD 30 0),iV (V.getD 31 0),iV (V.getD 32 0),iV (V.getD 33 0),iV (V.getD 34 0),iV (V.getD 35 0),iV (V.getD 36 0),iV (V.getD 37 0),iV (V.getD 38 0),iV (V.getD 39 0),iV (V.getD 40 0),iV (V.getD 41 0),iV (V.getD 42 0),iV (V.getD 43 0),iV (V.getD 44 0),iV (V.getD 45 0),iV (V.getD 46 0),iV (V.getD 47 0),iV (V.getD 48 0),iV (V.getD 49 0),iV (V.getD 50 0),iV (V.getD 51 0),iV (V.getD 52 0),iV (V.getD 53 0),iV (V.getD 54 0),iV (V.getD 55 0),iV (V.getD 56 0),iV (V.getD 57 0),iV (V.getD 58 0),iV (V.getD 59 0),iV (V.getD 60 0),iV (V.getD 61 0),iV (V.getD 62 0),iV (V.getD 63 0)]:=by
 have h1:fl eI V=fl eI ((List.range 64).map fun i=>V.getD i 0):=congrArg _ (lget h)
 exact h1.trans kr
end
end Go.Proofs.YtcgkoffnknpgjaaGreatDoor
