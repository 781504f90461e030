/- Walks, printed by my generator t5.py. -/
import Derived.Test.YtcgkoffnknpgjaaGreatDoorBundle37x
import Derived.Test.YtcgkoffnknpgjaaGreatDoorExax
import Derived.Sort.LotA
namespace Go.Proofs.YtcgkoffnknpgjaaGreatDoor
set_option linter.unusedVariables false
set_option linter.unusedSimpArgs false
open Tryz
set_option maxHeartbeats 4000000
theorem uQ(m:Nat)(_:0≤(m:Int)-1)(_:0≤ -(m:Int)+4):HT prog 127 [iV m] [] (fun v K=> ∃b:Nat,v= .tuple #[pV b,iV 0]∧K= [Cl b [iV 0,iV m,iV 0,.bool (decide (0<0)),.bool (decide (1<0)),.bool (decide (2<0)),.bool (decide (3<0)),.bool (decide (0<(m:Int))),.bool (decide (1<(m:Int))),.bool (decide (2<(m:Int))),.bool (decide (3<(m:Int)))] 340]):=by
 refine AC func127 ntmps127 fun g w0 R h0=>go [.v 1 1 (oF ((m:Int)<1)),.v 1 4 (oF ((m:Int)>4))]<|nP 340 [iV 0,iV m,iV 0,bF,bF,bF,bF,bF,bF,bF,bF] h0 (fun c f l=> ?_)
 refine g0 ?_
 have p:sat g f [Cl c [iV 0,iV m,iV 0,bF,bF,bF,bF,.bool (decide (0<0)),.bool (decide (1<0)),.bool (decide (2<0)),.bool (decide (3<0))] 340,R]:=l
 refine Jc (fun mz_ a w=> ∃i:Nat,∃lr:Fr,mz_=m-i∧(i≤m)∧a=mk 26 (([(4,pV c),(15,iV m),(16,iV i)]:Fr)++lr)∧sat g w [Cl c [iV 0,iV m,iV 0,bF,bF,bF,bF,.bool (decide (0<(i:Int))),.bool (decide (1<(i:Int))),.bool (decide (2<(i:Int))),.bool (decide (3<(i:Int)))] 340,R]) (m-0) ⟨0,_,rfl,(Nat.zero_le _),(Ck [.k 4 (pV c),.k 15 (iV m),.o 16 (oJ .i64 0 (0:Int))]),p⟩ ?_
 rintro t u y ⟨i,A,rfl,hi_,rfl,d⟩
 refine ga<|go [.s 5 0] ?_
 by_cases e:(i:Int)<(m:Int)
 ·
  refine go [.v 5 0 (oT _ e),.s 7 4]<|AS (.pointer (some ⟨c,i+7,none⟩)) (AA (x:=Ot 22) (i:=Ot 20) (b:=c) (off:=7) (z:=(i:Int)) kr underlying338 1 kr i kr kr om om (i+7) om _) ?_
  refine AH ?_
  refine Bc [(i+7,bT)] (cs':= [iV 0,iV m,iV 0,bF,bF,bF,bF,.bool (decide (0<(i:Int)+1)),.bool (decide (1<(i:Int)+1)),.bool (decide (2<(i:Int)+1)),.bool (decide (3<(i:Int)+1))]) kr kr (pH (j:=i) om om) (gM (j:=i) rfl om om) d ?_
  intro _ q
  refine Gq<|go [.v 8 0 (CD ((i:Int)+1))] ?_
  exact kB (m-(i+1)) ⟨(i+1),_,rfl,om,(Ck [.k 4 (pV c),.k 15 (iV m),.o 16 (oJ .i64 ((i:Int)+1) (((i+1):Nat):Int))]),q⟩
 refine go [.v 5 0 (oF _ e)]<|up<|g0 ?_
 obtain rfl:i=m:=by omega
 exact en _ [] ⟨_,_,rfl,⟨c,rfl,rfl⟩,d⟩
theorem WE(a:Nat)(_:0≤(a:Int)-1)(_:0≤ -(a:Int)+256):HT prog 126 [iV a] [] (fun v K=> ∃b:Nat,v= .tuple #[pV b,iV 0]∧K= [Cl b ([iV a]++List.replicate 256 (yV 0)) 336]):=by
 refine AC func126 ntmps126 fun g w0 R h0=>go [.v 1 1 (oF ((a:Int)<1)),.v 1 4 (oF ((a:Int)>256))]<|nP 336 ([iV a]++List.replicate 256 (yV 0)) h0 (fun b _ c=> ?_)
 refine g0 ?_
 exact en _ [] ⟨_,_,rfl,⟨b,rfl,rfl⟩,c⟩
theorem WF(a:Int)(_:0≤a-1)(_:0≤ -a+64):HT prog 128 [iV a] [] (fun v K=> ∃b:Nat,v= .tuple #[pV b,iV 0]∧K= [Cl b ([bF,iV 0,iV a]++List.replicate 65 (iV 0)) 344]):=by
 refine AC func128 ntmps128 fun g w0 R h0=>go [.v 1 1 (oF (a<1)),.v 1 4 (oF (a>64))]<|nP 344 ([bF,iV 0,iV a]++List.replicate 65 (iV 0)) h0 (fun b _ c=> ?_)
 refine g0 ?_
 exact en _ [] ⟨_,_,rfl,⟨b,rfl,rfl⟩,c⟩
theorem WG(a:Int)(_:0≤a-1)(_:0≤ -a+64):HT prog 129 [iV a] [] (fun v K=> ∃b:Nat,v= .tuple #[pV b,iV 0]∧K= [Cl b (List.replicate 64 (iV 0)++ [iV a,iV 0,iV 0,bT]) 346]):=by
 refine AC func129 ntmps129 fun g w0 R h0=>go [.v 1 1 (oF (a<1)),.v 1 4 (oF (a>64))]<|nP 346 (List.replicate 64 (iV 0)++ [iV a,iV 0,iV 0,bT]) h0 (fun b _ c=> ?_)
 refine g0 ?_
 exact en _ [] ⟨_,_,rfl,⟨b,rfl,rfl⟩,c⟩
theorem zB(n m:Nat)(zz yy:Int)(_:0≤(m:Int)-1)(_:0≤ -(m:Int)+4)(_:0≤(n:Int)-1)(_:0≤ -(n:Int)+256)(_:0≤zz-1)(_:0≤ -zz+64)(_:0≤yy-1)(_:0≤ -yy+64):HT prog 62 [iV n,iV m,iV zz,iV yy] [] (fun v K=> ∃b:Nat,v= .tuple #[pV b,iV 0]∧K= [Mr b n m 0 0 0]):=by
 refine AC func62 ntmps62 fun g w0 R h0=>g0<|nP 250 [iV n,iV m,pO,pO,pO,.slice none 0 0] h0 (fun q _ H=> ?_)
 refine g0<|cP call126 (WE n om om) H ?_
 rintro v K _ (⟨j,rfl,rfl⟩) I
 have J:=(B3 I).a.t3
 refine g0<|sP [(3,pV j)] [iV n,iV m,pO,pV j,pO,.slice none 0 0] J fun _ L=>g0<|cP call127 (uQ m om om) L ?_
 rintro v K _ (⟨l,rfl,rfl⟩) M
 have N:=(B3 M).a.t4
 refine g0<|sP [(2,pV l)] [iV n,iV m,pV l,pV j,pO,.slice none 0 0] N fun _ O=>g0<|cP call128 (WF zz om om) O ?_
 rintro v K _ (⟨u,rfl,rfl⟩) P
 have Q:=(B3 P).a.t5
 refine g0<|sP [(4,pV u)] [iV n,iV m,pV l,pV j,pV u,.slice none 0 0] Q fun ae S=>g0 ?_
 have T:sat g _ (Sl 257 1 none 0 0 (fl KY [])::_):=CP 257 1 S
 have U:=Ic (cs:=(List.replicate 64 (iV 0)++ [iV yy,iV 0,iV 0,bT])) (t:=346) T
 refine Jc (fun mz_ a w=> ∃i:Nat,∃p:Option Addr,∃c:Nat,∃qs:List Nat,∃lr:Fr,mz_=m-i∧(i≤m)∧(qs.length=i)∧a=mk 74 (([(3,iV yy),(10,pV q),(51,iV m),(52,iV i)]:Fr)++lr)∧sat g w [Cl q [iV n,iV m,pV l,pV j,pV u,.slice p i c] 250,Sl 257 1 p i c (fl KY qs),Bs (List.replicate 64 (iV 0)++ [iV yy,iV 0,iV 0,bT]) 346 qs,Cl u ([bF,iV 0,iV zz]++List.replicate 65 (iV 0)) 344,Cl l [iV 0,iV m,iV 0,.bool (decide (0<0)),.bool (decide (1<0)),.bool (decide (2<0)),.bool (decide (3<0)),.bool (decide (0<(m:Int))),.bool (decide (1<(m:Int))),.bool (decide (2<(m:Int))),.bool (decide (3<(m:Int)))] 340,Cl j ([iV n]++List.replicate 256 (yV 0)) 336,R]) (m-0) ⟨0,none,0,[],_,rfl,(Nat.zero_le _),rfl,(Ck [.k 3 (iV yy),.k 10 (pV q),.k 51 (iV m),.o 52 (oJ .i64 0 (0:Int))]),U.a.b.t7⟩ ?_
 rintro af ag ah ⟨i,p,c,qs,ai,rfl,hi_,hq_,rfl,B⟩
 refine ga<|go [.s 13 0] ?_
 by_cases C:(i:Int)<(m:Int)
 ·
  refine go [.v 13 0 (oT _ C)]<|cP call129 (WG yy om om) B ?_
  rintro v K _ (⟨y,rfl,rfl⟩) V
  have D:=B3 V
  refine go [rd 17 4 1 5 1 D]<|nG (fun q_=> .slice (some ⟨q_,0,none⟩) 1 1) 257 [pV y] D (fun E _ W=>⟨kd [],?_⟩)
  have F:=W.c.t9
  refine AH ?_
  refine aA 69 1 (Ot 66) (Ot 68) (pO) p i c 1 1 (⟨E,0,none⟩) 8 underlying248 F (fl KY [y]) rfl (Br F rfl) (Aw GK _) (i+1) ?_
  intro z A aj X
  have G:sat g _ (Sl 257 1 z (i+1) A (fl KY (qs++ [y]))::_):=sJ X
  obtain⟨ak,al⟩:=BH G
  refine B1 ?_
  have Y:=G.c.t9
  refine g0<|sP [(5,.slice z (i+1) A)] [iV n,iV m,pV l,pV j,pV u,.slice z (i+1) A] Y fun Z aa=>go [.v 18 0 (CD ((i:Int)+1))] ?_
  refine ET ?_
  have ab:sat g Z [Bs (List.replicate 64 (iV 0)++ [iV yy,iV 0,iV 0,bT]) 346 (qs++ [y]),Cl q [iV n,iV m,pV l,pV j,pV u,.slice z (i+1) A] 250,Sl 257 1 z (i+1) A (fl KY (qs++ [y])),Cl E [pV y] 257,Cl u ([bF,iV 0,iV zz]++List.replicate 65 (iV 0)) 344,Cl l [iV 0,iV m,iV 0,.bool (decide (0<0)),.bool (decide (1<0)),.bool (decide (2<0)),.bool (decide (3<0)),.bool (decide (0<(m:Int))),.bool (decide (1<(m:Int))),.bool (decide (2<(m:Int))),.bool (decide (3<(m:Int)))] 340,Cl j ([iV n]++List.replicate 256 (yV 0)) 336,R]:=dB aa.d.d.t9
  have ac:=ab.x.x.x.x.d.f.f.t8.t7
  change ∃n',n'<_∧_
  refine⟨(m-(i+1)),by omega,(i+1),z,A,(qs++ [y]),_,rfl,om,(by rw[List.length_append,hq_];rfl),(Ck [.k 3 (iV yy),.k 10 (pV q),.k 51 (iV m),.o 52 (oJ .i64 ((i:Int)+1) (((i+1):Nat):Int))]),ac⟩
 refine go [.v 13 0 (oF _ C)]<|up<|g0 ?_
 obtain rfl:i=m:=by omega
 have ad:sat g _ (Mr q n i 0 0 0::_):=BR q n i 0 0 0 l j u p c qs zz yy hq_ om om om om om om B.c.e.e.c.t7
 exact en _ [] ⟨_,_,rfl,⟨q,rfl,rfl⟩,ad⟩
def iA(b n m:Nat)(ph cy sn at_ nx bg:Int)(mk sw:Nat)(tl:Int):List AB:= [Cl b [pV mk,pV sw,iV n,iV m,iV at_,iV bg,Value.bool false] 158,Mr mk n m ph cy sn,Cl sw [iV n,iV nx,iV tl] 263]
def Cy(b n m:Nat)(ph cy sn at_ nx bg:Int):AB:=fun h=> ∃mk:Nat,∃sw:Nat,∃tl:Int,(1≤m)∧(m≤4)∧(1≤n)∧(n≤256)∧(0≤tl∧tl≤nx)∧Aj (iA b n m ph cy sn at_ nx bg mk sw tl) h
theorem BT{g w:World}{L_:List AB}{b:Nat}{n:Nat}{m:Nat}{ph:Int}{cy:Int}{sn:Int}{at_:Int}{nx:Int}{bg:Int}(h:sat g w (Cy b n m ph cy sn at_ nx bg::L_)): ∃mk:Nat,∃sw:Nat,∃tl:Int,(1≤m)∧(m≤4)∧(1≤n)∧(n≤256)∧(0≤tl∧tl≤nx)∧sat g w (iA b n m ph cy sn at_ nx bg mk sw tl++L_):=by
 obtain⟨⟨mk,sw,tl⟩,hp,h2⟩:=Af (X:=Nat×Nat×Int) (p:=fun q_=>(1≤m)∧(m≤4)∧(1≤n)∧(n≤256)∧(0≤q_.2.2∧q_.2.2≤nx)) (B:=fun q_=>Aj (iA b n m ph cy sn at_ nx bg q_.1 q_.2.1 q_.2.2)) h (fun _ hk=>by obtain⟨mk,sw,tl,a,c,d,e,f,hk⟩:=hk;exact⟨(mk,sw,tl),⟨a,c,d,e,f⟩,hk⟩)
 exact⟨mk,sw,tl,hp.1,hp.2.1,hp.2.2.1,hp.2.2.2.1,hp.2.2.2.2,AK h2⟩
theorem Az{g w:World}{L_:List AB}(b n m:Nat)(ph cy sn at_ nx bg:Int)(mk sw:Nat)(tl:Int)(a:1≤m)(c:m≤4)(d:1≤n)(e:n≤256)(f:0≤tl∧tl≤nx)(h:sat g w (iA b n m ph cy sn at_ nx bg mk sw tl++L_)):sat g w (Cy b n m ph cy sn at_ nx bg::L_):=AI (AO h) fun _ hk=>⟨mk,sw,tl,a,c,d,e,f,hk⟩
theorem WH(a:Nat)(_:0≤(a:Int)-1)(_:0≤ -(a:Int)+256):HT prog 63 [iV a] [] (fun v K=> ∃b:Nat,v= .tuple #[pV b,iV 0]∧K= [Cl b [iV a,iV a,iV 0] 263]):=by
 refine AC func63 ntmps63 fun g w0 R h0=>go [.v 1 1 (oF ((a:Int)<1)),.v 1 4 (oF ((a:Int)>256))]<|nP 263 [iV a,iV a,iV 0] h0 (fun b _ c=> ?_)
 refine g0 ?_
 exact en _ [] ⟨_,_,rfl,⟨b,rfl,rfl⟩,c⟩
theorem uR(n m:Nat)(qt ba cp qu btc fi zz yy:Int)(_:0≤(n:Int)-1)(_:0≤ -(n:Int)+256)(_:0≤(m:Int)-1)(_:0≤ -(m:Int)+4)(_:0≤zz-1)(_:0≤ -zz+64)(_:0≤yy-1)(_:0≤ -yy+64):HT prog 29 [.agg #[iV n,iV m,iV zz,iV yy,iV qu,iV qt,iV btc,iV ba,iV cp,uV fi]] [] (fun v K=> ∃b:Nat,v= .tuple #[pV b,iV 0]∧K= [Cy b n m 0 0 0 0 (n:Int) 0]):=by
 refine AC func29 ntmps29 fun g w0 R h0=>g0<|nP 26 [iV n,iV m,iV zz,iV yy,iV qu,iV qt,iV btc,iV ba,iV cp,uV fi] h0 (fun q _ c=> ?_)
 refine go [rd 1 1 0 0 1 c,rd 1 3 0 1 1 c,rd 1 5 0 2 1 c,rd 1 7 0 3 1 c]<|cP call62 (zB n m zz yy om om om om om om om om) c ?_
 rintro v K _ (⟨f,rfl,rfl⟩) k
 have i:=B3 k
 refine go [rd 4 1 1 0 1 i]<|cP call63 (WH n om om) i ?_
 rintro v K _ (⟨j,rfl,rfl⟩) l
 have d:=B3 l
 refine go [rd 7 3 2 0 1 d,rd 7 5 2 1 1 d]<|nP 158 [pV f,pV j,iV n,iV m,iV 0,iV 0,bF] d (fun e s o=> ?_)
 refine g0 ?_
 have p:sat g _ (Cy e n m 0 0 0 0 (n:Int) 0::_):=Az e n m 0 0 0 0 (n:Int) 0 f j 0 om om om om om o.b.a.t5
 exact en _ [] ⟨_,_,rfl,⟨e,rfl,rfl⟩,p.B.t2⟩
theorem Ab(a b c d e:Nat)(f i:Int):HQ 114 [pV a] [Cl a [pV b,pV c,iV d,iV e,iV f,iV i,bF] 158] (bT) [Cl a [pV b,pV c,iV d,iV e,iV f,iV i,bF] 158]:=by
 refine AC func114 ntmps114 fun g w0 R j=>go [rd 1 6 0 0 1 j] ?_
 exact AD _ [] j
theorem zC(b n m:Nat)(ph cy sn at_ nx bg:Int):HQ 263 [pV b] [Cy b n m ph cy sn at_ nx bg] (iV bg) [Cy b n m ph cy sn at_ nx bg]:=by
 refine AC func263 ntmps263 fun g w0 R h0=> ?_
 obtain⟨a,c,e,f,i,j,k,l,o⟩:=BT h0
 have p:sat g _ (Cl b [pV a,pV c,iV n,iV m,iV at_,iV bg,bF] 158::_):=o
 refine g0<|AF call114 (Ab b a c n m at_ bg) p fun s d=>go [rd 3 3 0 5 1 d] ?_
 have q:sat g _ (Cy b n m ph cy sn at_ nx bg::_):=Az b n m ph cy sn at_ nx bg a c e f i j k l d
 exact AD _ [] q
theorem zD(b n m:Nat)(ph cy sn at_ nx bg:Int):HQ 264 [pV b] [Cy b n m ph cy sn at_ nx bg] (iV cy) [Cy b n m ph cy sn at_ nx bg]:=by
 refine AC func264 ntmps264 fun g w0 R h0=> ?_
 obtain⟨c,d,f,i,j,k,l,o,p⟩:=BT h0
 have q:sat g _ (Cl b [pV c,pV d,iV n,iV m,iV at_,iV bg,bF] 158::_):=p
 refine g0<|AF call114 (Ab b c d n m at_ bg) q fun _ e=> ?_
 have s:=e.a.t4
 refine go [rd 3 3 0 0 1 e]<|AF call342 (yW c n m cy ph sn) s fun x t=>g0 ?_
 have u:sat g _ (Cy b n m ph cy sn at_ nx bg::_):=Az b n m ph cy sn at_ nx bg c d f i j k l o t.a.t4
 exact AD _ [] u
theorem QR(j c d e:Nat)(k l:Int)(f:Nat)(i b:Int)(_:0≤b+9223372036854775809)(_:0≤ -b+9223372036854775806):HQ 317 [pV j] [Mr c d e 0 k l,Cl j [pV c,pV f,iV d,iV e,iV i,iV b,bF] 158] (iV 0) [Mr c d e 1 k 0,Cl j [pV c,pV f,iV d,iV e,iV i,iV (b+1),bF] 158]:=by
 refine AC func317 ntmps317 fun g w0 R h0=> ?_
 have p:=h0.a.t3
 refine g0<|sP [(6,bF)] [pV c,pV f,iV d,iV e,iV i,iV b,bF] p fun _ m=>go [rd 2 3 0 5 1 m,.v 2 4 (CD (b+1))]<|sP [(5,iV (b+1))] [pV c,pV f,iV d,iV e,iV i,iV (b+1),bF] m fun _ o=> ?_
 have q:=o.a.t3
 refine go [rd 3 3 0 0 1 o]<|AF call389 (pK c d e k l) q fun _ s=>g0 ?_
 exact AD _ [] s
theorem uS(b n m:Nat)(cy sn at_ nx bg:Int)(_:0≤bg)(_:0≤ -bg+1000000):HQ 226 [pV b] [Cy b n m 0 cy sn at_ nx bg] (bT) [Cy b n m 1 cy 0 at_ nx (bg+1)]:=by
 refine AC func226 ntmps226 fun g w0 R h0=> ?_
 obtain⟨c,d,f,i,j,k,l,o,p⟩:=BT h0
 have q:sat g _ (Cl b [pV c,pV d,iV n,iV m,iV at_,iV bg,bF] 158::_):=p
 refine g0<|AF call114 (Ab b c d n m at_ bg) q fun _ e=> ?_
 have s:=e.a.t4
 refine go [rd 3 3 0 0 1 e]<|AF call291 (CI c n m cy 0 sn) s fun _ t=>g0<|DF call317 (QR b c n m cy sn d at_ bg om om) t fun y u=>g0 ?_
 have x:sat g _ (Cy b n m 1 cy 0 at_ nx (bg+1)::_):=Az b n m 1 cy 0 at_ nx (bg+1) c d f i j k l o u.a.t4
 exact AD _ [] x
theorem iB(b n m:Nat)(ph cy sn at_ nx bg:Int)(ar:Nat)(A:List AM)(j:Nat)(_:0≤ph-3)(_:0≤(m:Int)-(j:Int)-1):HQ 197 [pV b,pV ar,iV j] [Cy b n m ph cy sn at_ nx bg,B2 ar n m A] (.tuple #[bF,iV 8]) [Cy b n m ph cy sn at_ nx bg,B2 ar n m A]:=by
 refine AC func197 ntmps197 fun g w0 R h0=> ?_
 obtain⟨d,e,i,k,l,o,p,q,s⟩:=BT h0
 have t:sat g _ (Cl b [pV d,pV e,iV n,iV m,iV at_,iV bg,bF] 158::_):=s
 refine g0<|AF call114 (Ab b d e n m at_ bg) t fun _ f=> ?_
 have u:=f.c.b.t5
 refine go [rd 3 3 0 0 1 f]<|DF call261 (pM d n m cy ph sn ar A j om om) u fun z x=>g0 ?_
 have y:sat g _ (Cy b n m ph cy sn at_ nx bg::_):=Az b n m ph cy sn at_ nx bg d e i k l o p q x.c.a.c.t5
 exact AD _ [] y
theorem iC(b n m:Nat)(cy sn at_ nx bg:Int)(ar:Nat)(A:List AM)(j:Nat)(_:0≤(m:Int)-(j:Int)-1):HQ 197 [pV b,pV ar,iV j] [Cy b n m 0 cy sn at_ nx bg,B2 ar n m A] (.tuple #[bF,iV 8]) [Cy b n m 0 cy sn at_ nx bg,B2 ar n m A]:=by
 refine AC func197 ntmps197 fun g w0 R h0=> ?_
 obtain⟨d,e,i,k,l,o,p,q,s⟩:=BT h0
 have t:sat g _ (Cl b [pV d,pV e,iV n,iV m,iV at_,iV bg,bF] 158::_):=s
 refine g0<|AF call114 (Ab b d e n m at_ bg) t fun _ f=> ?_
 have u:=f.c.b.t5
 refine go [rd 3 3 0 0 1 f]<|DF call261 (pP d n m cy sn ar A j om) u fun z x=>g0 ?_
 have y:sat g _ (Cy b n m 0 cy sn at_ nx bg::_):=Az b n m 0 cy sn at_ nx bg d e i k l o p q x.c.a.c.t5
 exact AD _ [] y
theorem iD(b n m:Nat)(ph cy sn at_ nx bg:Int)(ar:Nat)(A:List AM)(s:Nat)(gn:Int)(j:Nat)(_:0≤ph-3)(_:0≤(m:Int)-(j:Int)-1):HQ 197 [pV b,pV ar,iV j] [Cy b n m ph cy sn at_ nx bg,BY ar n m A s gn] (.tuple #[bF,iV 8]) [Cy b n m ph cy sn at_ nx bg,BY ar n m A s gn]:=by
 refine AC func197 ntmps197 fun g w0 R h0=> ?_
 obtain⟨d,e,i,k,l,o,p,q,t⟩:=BT h0
 have u:sat g _ (Cl b [pV d,pV e,iV n,iV m,iV at_,iV bg,bF] 158::_):=t
 refine g0<|AF call114 (Ab b d e n m at_ bg) u fun _ f=> ?_
 have x:=f.c.b.t5
 refine go [rd 3 3 0 0 1 f]<|DF call261 (pQ d n m cy ph sn ar A s gn j om om) x fun B y=>g0 ?_
 have z:sat g _ (Cy b n m ph cy sn at_ nx bg::_):=Az b n m ph cy sn at_ nx bg d e i k l o p q y.c.a.c.t5
 exact AD _ [] z
theorem pR(b n m:Nat)(cy at_ nx bg:Int)(ar:Nat)(A:List AM)(s:Nat)(gn:Int)(j:Nat)(_:0≤(m:Int)-(j:Int)-1):HQ 197 [pV b,pV ar,iV j] [Cy b n m 1 cy (j:Int) at_ nx bg,BY ar n m A s gn] (.tuple #[bT,iV 0]) [Cy b n m 1 cy ((j:Int)+1) at_ nx bg,BY ar n m A s gn]:=by
 refine AC func197 ntmps197 fun g w0 R h0=> ?_
 obtain⟨d,e,i,k,l,o,p,q,t⟩:=BT h0
 have u:sat g _ (Cl b [pV d,pV e,iV n,iV m,iV at_,iV bg,bF] 158::_):=t
 refine g0<|AF call114 (Ab b d e n m at_ bg) u fun _ f=> ?_
 have x:=f.c.b.t5
 refine go [rd 3 3 0 0 1 f]<|DF call261 (uO d n m cy ar A s gn j om) x fun B y=>g0 ?_
 have z:sat g _ (Cy b n m 1 cy ((j:Int)+1) at_ nx bg::_):=Az b n m 1 cy ((j:Int)+1) at_ nx bg d e i k l o p q y.c.a.c.t5
 exact AD _ [] z
theorem pS(b n m:Nat)(cy at_ nx bg:Int)(ar:Nat)(A:List AM)(s:Nat)(gn:Int)(j:Nat)(_:0≤(m:Int)-(j:Int)-1):HQ 197 [pV b,pV ar,iV j] [Cy b n m 2 cy (j:Int) at_ nx bg,BY ar n m A s gn] (.tuple #[bT,iV 0]) [Cy b n m 2 cy ((j:Int)+1) at_ nx bg,BY ar n m A s gn]:=by
 refine AC func197 ntmps197 fun g w0 R h0=> ?_
 obtain⟨d,e,i,k,l,o,p,q,t⟩:=BT h0
 have u:sat g _ (Cl b [pV d,pV e,iV n,iV m,iV at_,iV bg,bF] 158::_):=t
 refine g0<|AF call114 (Ab b d e n m at_ bg) u fun _ f=> ?_
 have x:=f.c.b.t5
 refine go [rd 3 3 0 0 1 f]<|DF call261 (uP d n m cy ar A s gn j om) x fun B y=>g0 ?_
 have z:sat g _ (Cy b n m 2 cy ((j:Int)+1) at_ nx bg::_):=Az b n m 2 cy ((j:Int)+1) at_ nx bg d e i k l o p q y.c.a.c.t5
 exact AD _ [] z
theorem BI:HQ 290 [] [] (.agg #[.func (Fn.func 364) #[] #[],.func (Fn.func 365) #[] #[],.func (Fn.func 365) #[] #[],.func (Fn.func 365) #[] #[],.func (Fn.func 366) #[] #[],.func (Fn.func 367) #[] #[]]) []:=by
 refine AC func290 ntmps290 fun g w0 R h0=>g0<|nP 427 [Value.nilFunc,Value.nilFunc,Value.nilFunc,Value.nilFunc,Value.nilFunc,Value.nilFunc] h0 (fun _ _ c=> ?_)
 refine g0<|sA [.func (Fn.func 364) #[] #[],.func (Fn.func 365) #[] #[],.func (Fn.func 365) #[] #[],.func (Fn.func 365) #[] #[],.func (Fn.func 366) #[] #[],.func (Fn.func 367) #[] #[]] c fun _ b=>g0 ?_
 exact AD _ [rd 0 0 0 0 6 b] b.a.t1
theorem Se(b k:Nat)(l:Int)(c d e f:Nat)(i j:Int):HQ 364 [pV b,pV k,iV l] [Cl b [pV c,pV f,iV d,iV e,iV i,iV j,bF] 158] (.tuple #[.agg #[iV 0,uV 0],bF,iV 0]) [Cl b [pV c,pV f,iV d,iV e,iV i,iV j,bF] 158]:=by
 refine AC func364 ntmps364 fun g w0 R h0=>g0<|nP 203 [iV 0,uV 0] h0 (fun _ _ m=> ?_)
 refine go [rd 1 3 1 6 1 m]<|sA [iV 0,uV 0] m fun _ o=>g0 ?_
 exact AD _ [rd 0 0 0 0 2 o] o.a.t3.b.a.t2
theorem uT(b n m:Nat)(cy sn at_ nx bg:Int)(ar:Nat)(A:List AM)(rm:Int)(_:0≤rm):HQ 213 [pV b,pV ar,iV rm] [Cy b n m 0 cy sn at_ nx bg,B2 ar n m A] (.tuple #[.agg #[iV 0,uV 0],bF,iV 0]) [Cy b n m 0 cy sn at_ nx bg,B2 ar n m A]:=by
 refine AC func213 ntmps213 fun g w0 R h0=> ?_
 obtain⟨e,f,o,p,q,s,t,u,x⟩:=BT h0
 have y:sat g _ (Cl b [pV e,pV f,iV n,iV m,iV at_,iV bg,bF] 158::_):=x
 refine g0<|nP 203 [iV 0,uV 0] y (fun J _ z=> ?_)
 have B:=z.d.t6
 refine g0<|AF call289 (Hx ar n m A) B fun _ C=> ?_
 have D:=C.b.t6
 refine g0<|AF call114 (Ab b e f n m at_ bg) D fun _ i=>go [.v 2 5 (DR (n:Int) 0),rd 4 4 0 2 1 i,.v 4 5 (Db (n:Int) (n:Int)),rd 4 11 0 3 1 i,.v 4 12 (Db (m:Int) (m:Int)),.v 4 16 (oF (rm<0))]<|dw (AE [1,2,3,4,7,8,9] (Tr.an 0 (Tr.an 5 (Tr.fl 6 (Tr.an 10 (AE [11,12,13] (Tr.an 14 (AE [15,16] Tr.nil)))))))) i fun _ j=>go [rd 6 4 0 0 1 j]<|CJ call290 BI j fun _ k=>⟨kd [rd 0 4 0 0 1 k],?_⟩
 refine BZ call291 (CI e n m cy 0 sn) k.c.t6 fun _ E=>⟨kd [],?_⟩
 have F:=E.a.t6
 refine g0<|BZ call364 (Se b ar rm e n m f at_ bg) F fun _ G=>⟨kd [],?_⟩
 have H:=G.c.t6
 refine g0<|sB [iV 0,uV 0] H fun L l=>⟨kd [],?_⟩
 refine g0 ?_
 have I:sat g _ (Cy b n m 0 cy sn at_ nx bg::_):=Az b n m 0 cy sn at_ nx bg e f o p q s t u l.d.c.c.t6
 exact AD _ [rd 0 0 0 0 2 l] I.b.a.t4.c.b.b.t3
theorem Sf(j f:Nat)(s:Int)(e d a:Nat)(i:Int)(o:Nat)(p q:Int)(k:List AM)(l:Nat)(m:Int):HQ 365 [pV j,pV f,iV s] [Mr e d a 1 i (a:Int),Cl j [pV e,pV o,iV d,iV a,iV p,iV q,bF] 158,BY f d a k l m] (.tuple #[.agg #[iV 0,uV 0],bF,iV 0]) [Mr e d a 2 i 0,Cl j [pV e,pV o,iV d,iV a,iV p,iV q,bF] 158,BY f d a k l m]:=by
 refine AC func365 ntmps365 fun g w0 R h0=>g0<|nP 203 [iV 0,uV 0] h0 (fun _ _ t=> ?_)
 have y:=t.c.b.t5
 refine go [rd 1 3 2 0 1 t]<|DF call405 (yX e d a i f k l m) y fun _ u=>go [rd 2 3 3 0 1 u]<|AF call291 (CI e d a i 2 0) u fun _ z=> ?_
 have A:=z.b.t5
 refine g0<|sA [iV 0,uV 0] A fun _ x=>g0 ?_
 exact AD _ [rd 0 0 0 0 2 x] x.b.c.c.t5.d.c.c.c.t4
theorem uU(b n m:Nat)(cy at_ nx bg:Int)(ar:Nat)(A:List AM)(s:Nat)(gn rm:Int)(_:0≤rm):HQ 213 [pV b,pV ar,iV rm] [Cy b n m 1 cy (m:Int) at_ nx bg,BY ar n m A s gn] (.tuple #[.agg #[iV 0,uV 0],bF,iV 0]) [Cy b n m 2 cy 0 at_ nx bg,BY ar n m A s gn]:=by
 refine AC func213 ntmps213 fun g w0 R h0=> ?_
 obtain⟨e,f,o,p,q,t,u,x,y⟩:=BT h0
 have z:sat g _ (Cl b [pV e,pV f,iV n,iV m,iV at_,iV bg,bF] 158::_):=y
 refine g0<|nP 203 [iV 0,uV 0] z (fun J _ B=> ?_)
 have C:=B.d.t6
 refine g0<|AF call289 (C3 ar n m A s gn) C fun _ D=> ?_
 have E:=D.b.t6
 refine g0<|AF call114 (Ab b e f n m at_ bg) E fun _ i=>go [.v 2 5 (DR (n:Int) 0),rd 4 4 0 2 1 i,.v 4 5 (Db (n:Int) (n:Int)),rd 4 11 0 3 1 i,.v 4 12 (Db (m:Int) (m:Int)),.v 4 16 (oF (rm<0))]<|dw (AE [1,2,3,4,7,8,9] (Tr.an 0 (Tr.an 5 (Tr.fl 6 (Tr.an 10 (AE [11,12,13] (Tr.an 14 (AE [15,16] Tr.nil)))))))) i fun _ j=>go [rd 6 4 0 0 1 j]<|CJ call290 BI j fun _ k=>⟨kd [rd 0 4 0 0 1 k],?_⟩
 refine BZ call291 (CI e n m cy 1 (m:Int)) k.c.t6 fun _ F=>⟨kd [],?_⟩
 refine g0<|L7 call365 (Sf b ar rm e n m cy f at_ bg A s gn) F fun _ G=>⟨kd [],?_⟩
 have H:=G.c.t6
 refine g0<|sB [iV 0,uV 0] H fun L l=>⟨kd [],?_⟩
 refine g0 ?_
 have I:sat g _ (Cy b n m 2 cy 0 at_ nx bg::_):=Az b n m 2 cy 0 at_ nx bg e f o p q t u x l.d.b.c.t6
 exact AD _ [rd 0 0 0 0 2 l] I.b.a.t4.c.b.b.t3
theorem Sg(j f:Nat)(s:Int)(e d a:Nat)(i:Int)(o:Nat)(p q:Int)(k:List AM)(l:Nat)(m:Int):HQ 365 [pV j,pV f,iV s] [Mr e d a 2 i (a:Int),Cl j [pV e,pV o,iV d,iV a,iV p,iV q,bF] 158,BY f d a k l m] (.tuple #[.agg #[iV 0,uV 0],bF,iV 0]) [Mr e d a 3 i 0,Cl j [pV e,pV o,iV d,iV a,iV p,iV q,bF] 158,BY f d a k l m]:=by
 refine AC func365 ntmps365 fun g w0 R h0=>g0<|nP 203 [iV 0,uV 0] h0 (fun _ _ t=> ?_)
 have y:=t.c.b.t5
 refine go [rd 1 3 2 0 1 t]<|DF call405 (yZ e d a i f k l m) y fun _ u=>go [rd 2 3 3 0 1 u]<|AF call291 (CI e d a i 3 0) u fun _ z=> ?_
 have A:=z.b.t5
 refine g0<|sA [iV 0,uV 0] A fun _ x=>g0 ?_
 exact AD _ [rd 0 0 0 0 2 x] x.b.c.c.t5.d.c.c.c.t4
theorem uW(b n m:Nat)(cy at_ nx bg:Int)(ar:Nat)(A:List AM)(s:Nat)(gn rm:Int)(_:0≤rm):HQ 213 [pV b,pV ar,iV rm] [Cy b n m 2 cy (m:Int) at_ nx bg,BY ar n m A s gn] (.tuple #[.agg #[iV 0,uV 0],bF,iV 0]) [Cy b n m 3 cy 0 at_ nx bg,BY ar n m A s gn]:=by
 refine AC func213 ntmps213 fun g w0 R h0=> ?_
 obtain⟨e,f,o,p,q,t,u,x,y⟩:=BT h0
 have z:sat g _ (Cl b [pV e,pV f,iV n,iV m,iV at_,iV bg,bF] 158::_):=y
 refine g0<|nP 203 [iV 0,uV 0] z (fun J _ B=> ?_)
 have C:=B.d.t6
 refine g0<|AF call289 (C3 ar n m A s gn) C fun _ D=> ?_
 have E:=D.b.t6
 refine g0<|AF call114 (Ab b e f n m at_ bg) E fun _ i=>go [.v 2 5 (DR (n:Int) 0),rd 4 4 0 2 1 i,.v 4 5 (Db (n:Int) (n:Int)),rd 4 11 0 3 1 i,.v 4 12 (Db (m:Int) (m:Int)),.v 4 16 (oF (rm<0))]<|dw (AE [1,2,3,4,7,8,9] (Tr.an 0 (Tr.an 5 (Tr.fl 6 (Tr.an 10 (AE [11,12,13] (Tr.an 14 (AE [15,16] Tr.nil)))))))) i fun _ j=>go [rd 6 4 0 0 1 j]<|CJ call290 BI j fun _ k=>⟨kd [rd 0 4 0 0 1 k],?_⟩
 refine BZ call291 (CI e n m cy 2 (m:Int)) k.c.t6 fun _ F=>⟨kd [],?_⟩
 refine g0<|L7 call365 (Sg b ar rm e n m cy f at_ bg A s gn) F fun _ G=>⟨kd [],?_⟩
 have H:=G.c.t6
 refine g0<|sB [iV 0,uV 0] H fun L l=>⟨kd [],?_⟩
 refine g0 ?_
 have I:sat g _ (Cy b n m 3 cy 0 at_ nx bg::_):=Az b n m 3 cy 0 at_ nx bg e f o p q t u x l.d.b.c.t6
 exact AD _ [rd 0 0 0 0 2 l] I.b.a.t4.c.b.b.t3
theorem Sh(j f:Nat)(s:Int)(e a d:Nat)(i:Int)(o:Nat)(p q:Int)(k:List AM)(l:Nat)(m:Int):HQ 365 [pV j,pV f,iV s] [Mr e a d 2 i 0,Cl j [pV e,pV o,iV a,iV d,iV p,iV q,bF] 158,BY f a d k l m] (.tuple #[.agg #[iV 0,uV 0],bF,iV 0]) [Mr e a d 2 i 0,Cl j [pV e,pV o,iV a,iV d,iV p,iV q,bF] 158,BY f a d k l m]:=by
 refine AC func365 ntmps365 fun g w0 R h0=>g0<|nP 203 [iV 0,uV 0] h0 (fun _ _ t=> ?_)
 have y:=t.c.b.t5
 refine go [rd 1 3 2 0 1 t]<|DF call405 (uN e a d i f k l m) y fun _ u=>go [rd 2 3 3 0 1 u]<|AF call291 (CI e a d i 2 0) u fun _ z=> ?_
 have A:=z.b.t5
 refine g0<|sA [iV 0,uV 0] A fun _ x=>g0 ?_
 exact AD _ [rd 0 0 0 0 2 x] x.b.c.c.t5.d.c.c.c.t4
theorem pT(b n m:Nat)(cy at_ nx bg:Int)(ar:Nat)(A:List AM)(s:Nat)(gn rm:Int)(_:0≤rm):HQ 213 [pV b,pV ar,iV rm] [Cy b n m 2 cy 0 at_ nx bg,BY ar n m A s gn] (.tuple #[.agg #[iV 0,uV 0],bF,iV 0]) [Cy b n m 2 cy 0 at_ nx bg,BY ar n m A s gn]:=by
 refine AC func213 ntmps213 fun g w0 R h0=> ?_
 obtain⟨e,f,o,p,q,t,u,x,y⟩:=BT h0
 have z:sat g _ (Cl b [pV e,pV f,iV n,iV m,iV at_,iV bg,bF] 158::_):=y
 refine g0<|nP 203 [iV 0,uV 0] z (fun J _ B=> ?_)
 have C:=B.d.t6
 refine g0<|AF call289 (C3 ar n m A s gn) C fun _ D=> ?_
 have E:=D.b.t6
 refine g0<|AF call114 (Ab b e f n m at_ bg) E fun _ i=>go [.v 2 5 (DR (n:Int) 0),rd 4 4 0 2 1 i,.v 4 5 (Db (n:Int) (n:Int)),rd 4 11 0 3 1 i,.v 4 12 (Db (m:Int) (m:Int)),.v 4 16 (oF (rm<0))]<|dw (AE [1,2,3,4,7,8,9] (Tr.an 0 (Tr.an 5 (Tr.fl 6 (Tr.an 10 (AE [11,12,13] (Tr.an 14 (AE [15,16] Tr.nil)))))))) i fun _ j=>go [rd 6 4 0 0 1 j]<|CJ call290 BI j fun _ k=>⟨kd [rd 0 4 0 0 1 k],?_⟩
 refine BZ call291 (CI e n m cy 2 0) k.c.t6 fun _ F=>⟨kd [],?_⟩
 refine g0<|L7 call365 (Sh b ar rm e n m cy f at_ bg A s gn) F fun _ G=>⟨kd [],?_⟩
 have H:=G.c.t6
 refine g0<|sB [iV 0,uV 0] H fun L l=>⟨kd [],?_⟩
 refine g0 ?_
 have I:sat g _ (Cy b n m 2 cy 0 at_ nx bg::_):=Az b n m 2 cy 0 at_ nx bg e f o p q t u x l.d.b.c.t6
 exact AD _ [rd 0 0 0 0 2 l] I.b.a.t4.c.b.b.t3
theorem Sj(j f:Nat)(s:Int)(e a d:Nat)(i q:Int)(k:Nat)(t l:Int)(m:List AM)(o:Nat)(p:Int):HQ 365 [pV j,pV f,iV s] [Mr e a d 3 i q,Cl j [pV e,pV k,iV a,iV d,iV t,iV l,bF] 158,BY f a d m o p] (.tuple #[.agg #[iV 0,uV 0],bF,iV 0]) [Mr e a d 4 i 0,Cl j [pV e,pV k,iV a,iV d,iV 0,iV l,bF] 158,BY f a d m o p]:=by
 refine AC func365 ntmps365 fun g w0 R h0=>g0<|nP 203 [iV 0,uV 0] h0 (fun _ _ u=> ?_)
 have z:=u.c.b.t5
 refine go [rd 1 3 2 0 1 u]<|DF call405 (zA e a d i f m o p q) z fun _ x=>go [rd 2 3 3 0 1 x]<|AF call291 (CI e a d i 4 0) x fun _ A=> ?_
 have B:=A.c.t5
 refine g0<|sP [(4,iV 0)] [pV e,pV k,iV a,iV d,iV 0,iV l,bF] B fun _ C=> ?_
 have D:=C.c.t5
 refine g0<|sA [iV 0,uV 0] D fun _ y=>g0 ?_
 exact AD _ [rd 0 0 0 0 2 y] y.c.b.c.t5.d.c.c.c.t4
theorem uX(b n m:Nat)(cy sn at_ nx bg:Int)(ar:Nat)(A:List AM)(s:Nat)(gn rm:Int)(_:0≤rm):HQ 213 [pV b,pV ar,iV rm] [Cy b n m 3 cy sn at_ nx bg,BY ar n m A s gn] (.tuple #[.agg #[iV 0,uV 0],bF,iV 0]) [Cy b n m 4 cy 0 0 nx bg,BY ar n m A s gn]:=by
 refine AC func213 ntmps213 fun g w0 R h0=> ?_
 obtain⟨e,f,o,p,q,t,u,x,y⟩:=BT h0
 have z:sat g _ (Cl b [pV e,pV f,iV n,iV m,iV at_,iV bg,bF] 158::_):=y
 refine g0<|nP 203 [iV 0,uV 0] z (fun J _ B=> ?_)
 have C:=B.d.t6
 refine g0<|AF call289 (C3 ar n m A s gn) C fun _ D=> ?_
 have E:=D.b.t6
 refine g0<|AF call114 (Ab b e f n m at_ bg) E fun _ i=>go [.v 2 5 (DR (n:Int) 0),rd 4 4 0 2 1 i,.v 4 5 (Db (n:Int) (n:Int)),rd 4 11 0 3 1 i,.v 4 12 (Db (m:Int) (m:Int)),.v 4 16 (oF (rm<0))]<|dw (AE [1,2,3,4,7,8,9] (Tr.an 0 (Tr.an 5 (Tr.fl 6 (Tr.an 10 (AE [11,12,13] (Tr.an 14 (AE [15,16] Tr.nil)))))))) i fun _ j=>go [rd 6 4 0 0 1 j]<|CJ call290 BI j fun _ k=>⟨kd [rd 0 4 0 0 1 k],?_⟩
 refine BZ call291 (CI e n m cy 3 sn) k.c.t6 fun _ F=>⟨kd [],?_⟩
 refine g0<|L7 call365 (Sj b ar rm e n m cy sn f at_ bg A s gn) F fun _ G=>⟨kd [],?_⟩
 have H:=G.c.t6
 refine g0<|sB [iV 0,uV 0] H fun L l=>⟨kd [],?_⟩
 refine g0 ?_
 have I:sat g _ (Cy b n m 4 cy 0 0 nx bg::_):=Az b n m 4 cy 0 0 nx bg e f o p q t u x l.d.b.c.t6
 exact AD _ [rd 0 0 0 0 2 l] I.b.a.t4.c.b.b.t3
theorem Gj(f c:Nat)(i:List AM)(d:Nat)(j:Int)(e:Nat)(k:AJ 1 i 0= [(d,j)]):HT prog 435 [pV f] [Cl f (pV e::iV c::fl Ce (F256.set d true)) 237,Tb e c i] (fun v K=> ∃l:Option Addr,∃m:Nat,v= .slice l 1 m∧K= [Cl f (pV e::iV c::fl Ce (F256.set d true)) 237,Tb e c i,Sl 203 2 l 1 m (fl He [(d,j)])]):=by
 refine AC func435 ntmps435 fun g w0 R h0=>g0<|AF call173 (Ek f d e c) h0 fun _ o=> ?_
 have p:=o.a.t3
 refine go [rd 3 3 0 0 1 o]<|cP call459 (Vu e c i d j k) p ?_
 rintro v K _ (⟨l,m,rfl,rfl⟩) q
 have s:=CW q
 refine g0 ?_
 exact en _ [] ⟨_,_,rfl,⟨l,m,rfl,rfl⟩,s.b.t4⟩
theorem Kj(p m e o i k:Nat)(q t:Int)(u:Nat)(y:Int)(l:List AM)(f:Int)(z:AJ 1 l 0= [(e,f)])(_:0≤(i:Int)-(e:Int)-1):HQ 406 [pV p,pV m,iV e] [Mr o i k 4 q t,Cl p [pV o,pV u,iV i,iV k,iV e,iV y,bF] 158,BY m i k l e f] (.tuple #[.agg #[iV e,uV f],bT]) [Mr o i k 4 q t,Cl p [pV o,pV u,iV i,iV k,iV e,iV y,bF] 158,BY m i k l e f]:=by
 refine AC func406 ntmps406 fun g w0 R h0=>g0<|nP 203 [iV 0,uV 0] h0 (fun _ _ G=> ?_)
 have I:=G.a.t5
 refine go [rd 1 3 2 0 1 G]<|AF call434 (H0 o i k q 4 t (e:Int) om om) I fun _ J=> ?_
 have L:=J.c.t5
 refine g0<|cP call266 (Kb m i k l e f) L ?_
 rintro v K _ (⟨M,N,rfl,rfl⟩) O
 refine cP call435 (Gj M i l e f N z) ((MG O).b.b.t7) ?_
 rintro v K _ (⟨P,Q,rfl,rfl⟩) S
 have H:=MG S
 refine go [.v 4 3 (oJ .i64 (1:Int) 1)]<|DS 39 ?_
 obtain⟨B,C⟩:=Av (j:=2) H rfl om
 refine go [.s 6 0]<|AS (pV B) (Ft (Ot 31) (Ot 33) P B 0 0 1 Q underlying392 2 0 C 0) ?_
 have A:=H.b.t8
 have Z:=Ca Bf dc A
 refine go [.r 6 1 B 0 [iV e,uV f] ⟨CM 0 A rfl C Bf 0 (iV e) (show ([(e,f)]:List (Nat×Int))[0]? =some (e,f) from rfl) 0,CM 0 A rfl C Bf 1 (uV f) (show ([(e,f)]:List (Nat×Int))[0]? =some (e,f) from rfl) 1,trivial⟩]<|nP 203 [iV 0,uV 0] A (fun _ _ T=> ?_)
 refine sA [iV e,uV f] T fun _ D=> ?_
 have U:=D.d.t9
 refine go [rd 7 1 0 0 1 D,.v 7 3 (Db (e:Int) (e:Int)),rd 8 1 0 0 2 D]<|AF call436 (gT m i k l e f) U fun _ V=>g0<|nP 234 [iV 0,iV 0,uV 0,iV 0,uV 0,iV 0,uV 0,iV 0,uV 0,bF] V (fun _ _ W=> ?_)
 refine sA [iV 0,iV 0,uV 0,iV 0,uV 0,iV 0,uV 0,iV 0,uV 0,bT] W fun _ X=>g0<|dw (AE [0,1,2,3,4,5,6] (Tr.an 7 (Tr.fl 8 Tr.nil))) X fun _ E=> ?_
 have Y:=E.x.t10
 refine go [rd 9 0 2 0 2 E,rd 9 5 0 9 1 E]<|sB [iV e,uV f] Y fun _ F=>⟨kd [rd 0 5 1 9 1 F],?_⟩
 refine g0<|up<|g0 ?_
 exact AD (.tuple #[.agg #[iV e,uV f],bT]) [rd 0 0 0 0 2 F] F.b.h.h.t10.i.c.c.c.t4
theorem Fw(b c:Nat)(a:Int)(_:0≤a-1):HQ 407 [pV b,pV c] [Cl b [bT] 4,Cl c [iV a] 3] (bF) [Cl b [bT] 4,Cl c [iV a] 3]:=by
 refine AC func407 ntmps407 fun g w0 R d=>go [rd 1 0 0 0 1 d,rd 1 2 1 0 1 d,.v 1 3 (DR a 0)] ?_
 exact AD _ [] d
theorem Kk(l m:Nat)(o:Int)(k e i:Nat)(t u:Int)(p c:Nat)(q:Int)(s:List AM)(j:Int)(x:AJ 1 s 0= [(c,j)])(_:0≤o-1)(_:0≤ -(c:Int)+9223372036854775806)(_:0≤ -(c:Int)+(e:Int)-2):HQ 366 [pV l,pV m,iV o] [Mr k e i 4 t u,Cl l [pV k,pV p,iV e,iV i,iV c,iV q,bF] 158,BY m e i s c j] (.tuple #[.agg #[iV c,uV j],bT,iV 0]) [Mr k e i 4 t u,Cl l [pV k,pV p,iV e,iV i,iV ((c:Int)+1),iV q,bF] 158,BY m e i s c j]:=by
 refine AC func366 ntmps366 fun g w0 R h0=>g0<|nP 3 [iV o] h0 (fun D _ E=> ?_)
 refine nP 203 [iV 0,uV 0] E (fun _ _ B=> ?_)
 have F:=B.d.d.d.t6
 refine go [rd 1 5 3 4 1 B]<|IM call406 (Kj l m c k e i t u p q s j x om) F fun _ G=>g0<|nP 203 [iV 0,uV 0] G (fun _ _ H=> ?_)
 refine nP 4 [bF] H (fun I _ J=> ?_)
 refine sA [iV c,uV j] J.a.t8 fun _ L=>sA [bT] L.a.t8 fun _ M=> ?_
 have N:=M.f.a.t8
 refine g0<|DF call407 (Fw I D o om) N fun _ C=> ?_
 have O:=C.d.t8
 refine go [rd 5 3 4 4 1 C,.v 5 4 (CD ((c:Int)+1))]<|sP [(4,iV ((c:Int)+1))] [pV k,pV p,iV e,iV i,iV ((c:Int)+1),iV q,bF] O fun _ P=>g0<|dw (AE [0,1,2,3,4,5,6,7,8] Tr.nil) P fun _ y=>go [rd 6 3 0 4 1 y,rd 6 7 0 2 1 y,.v 6 8 (DR ((c:Int)+1) (e:Int)),rd 9 0 1 0 1 y]<|dw (AE [0,1] (Tr.an 2 (AE [3,4] Tr.nil))) y fun _ z=> ?_
 have Q:=z.f.t8
 refine go [rd 11 0 3 0 2 z,rd 11 1 1 0 1 z]<|sB [iV c,uV j] Q fun _ A=>⟨kd [rd 0 1 2 0 1 A],?_⟩
 refine g0 ?_
 exact AD (.tuple #[.agg #[iV c,uV j],bT,iV 0]) [rd 0 0 0 0 2 A] A.f.b.f.t8.x.c.c.c.t4
theorem pU(b n m:Nat)(cy sn nx bg:Int)(ar:Nat)(A:List AM)(s:Nat)(gn rm:Int)(_:0≤(n:Int)-(s:Int)-2)(_:0≤rm-1):HQ 213 [pV b,pV ar,iV rm] [Cy b n m 4 cy sn (s:Int) nx bg,BY ar n m A s gn] (.tuple #[.agg #[iV s,uV gn],bT,iV 0]) [Cy b n m 4 cy sn ((s:Int)+1) nx bg,BY ar n m A s gn]:=by
 refine AC func213 ntmps213 fun g w0 R h0=> ?_
 have k:=h0.a.t3
 have i:=HC k;have hin11s:=i.2.1;have hin11g:=i.2.2
 obtain⟨e,f,q,t,u,x,y,O,z⟩:=BT k.a.t3
 have B:sat g _ (Cl b [pV e,pV f,iV n,iV m,iV s,iV bg,bF] 158::_):=z
 refine g0<|nP 203 [iV 0,uV 0] B (fun C _ D=> ?_)
 have E:=D.d.t6
 refine g0<|AF call289 (C3 ar n m A s gn) E fun _ F=> ?_
 have G:=F.b.t6
 refine g0<|AF call114 (Ab b e f n m (s:Int) bg) G fun _ j=>go [.v 2 5 (DR (n:Int) 0),rd 4 4 0 2 1 j,.v 4 5 (Db (n:Int) (n:Int)),rd 4 11 0 3 1 j,.v 4 12 (Db (m:Int) (m:Int)),.v 4 16 (oF (rm<0))]<|dw (AE [1,2,3,4,7,8,9] (Tr.an 0 (Tr.an 5 (Tr.fl 6 (Tr.an 10 (AE [11,12,13] (Tr.an 14 (AE [15,16] Tr.nil)))))))) j fun _ l=>go [rd 6 4 0 0 1 l]<|CJ call290 BI l fun _ o=>⟨kd [rd 0 4 0 0 1 o],?_⟩
 refine BZ call291 (CI e n m cy 4 sn) o.c.t6 fun _ H=>⟨kd [],?_⟩
 refine g0<|L7 call366 (Kk b ar rm e n m cy sn f s bg A gn i.1 om om om) H fun _ I=>⟨kd [],?_⟩
 have J:=I.c.t6
 refine g0<|sB [iV s,uV gn] J fun L p=>⟨kd [],?_⟩
 refine g0 ?_
 obtain⟨tl_,htl_⟩: ∃z_:Int,z_=q:=⟨_,rfl⟩
 have M:sat g L [Cl f [iV n,iV nx,iV tl_] 263,Cl C [iV s,uV gn] 203,Mr e n m 4 cy sn,Cl b [pV e,pV f,iV n,iV m,iV ((s:Int)+1),iV bg,bF] 158,BY ar n m A s gn,R]:=by rw[htl_];exact p.d.t6
 have N:sat g _ (Cy b n m 4 cy sn ((s:Int)+1) nx bg::_):=Az b n m 4 cy sn ((s:Int)+1) nx bg e f tl_ t u x y om M.b.c.t6
 exact AD (.tuple #[.agg #[iV s,uV gn],bT,iV 0]) [rd 0 0 0 0 2 p] N.b.a.t4.c.b.b.t3
theorem Dm(b a:Nat)(c d:Int)(_:0≤(a:Int)-1):HQ 179 [pV b] [Cl b [iV a,iV c,iV d] 263] (bT) [Cl b [iV a,iV c,iV d] 263]:=by
 refine AC func179 ntmps179 fun g w0 R e=>go [rd 1 6 0 0 1 e,.v 1 7 (oT ((a:Int)>0))] ?_
 exact AD _ [] e
theorem JI(b a:Nat)(d c:Int)(_:0≤(a:Int)-1):HQ 409 [pV b] [Cl b [iV a,iV d,iV c] 263] (iV 0) [Cl b [iV a,iV 0,iV 0] 263]:=by
 refine AC func409 ntmps409 fun g w0 R h0=>g0<|AF call179 (Dm b a d c om) h0 fun _ e=>g0<|sP [(1,iV 0)] [iV a,iV 0,iV c] e fun _ f=>g0<|sP [(2,iV 0)] [iV a,iV 0,iV 0] f fun _ i=>g0 ?_
 exact AD _ [] i
theorem Kl(l m:Nat)(o:Int)(j c e:Nat)(p t:Int)(k b:Nat)(q:Int)(s:List AM)(i u y:Int)(z:AJ 1 s 0= [(b,i)])(_:0≤o-1)(_:0≤ -(b:Int)+9223372036854775806)(_:0≤(b:Int)-(c:Int)+1)(_:0≤ -(b:Int)+(c:Int)-1):HQ 366 [pV l,pV m,iV o] [Mr j c e 4 p t,Cl l [pV j,pV k,iV c,iV e,iV b,iV q,bF] 158,BY m c e s b i,Cl k [iV c,iV u,iV y] 263] (.tuple #[.agg #[iV b,uV i],bT,iV 0]) [Mr j c e 5 p 0,Cl l [pV j,pV k,iV c,iV e,iV ((b:Int)+1),iV q,bF] 158,BY m c e s b i,Cl k [iV c,iV 0,iV 0] 263]:=by
 refine AC func366 ntmps366 fun g w0 R h0=>g0<|nP 3 [iV o] h0 (fun H _ I=> ?_)
 refine nP 203 [iV 0,uV 0] I (fun _ _ D=> ?_)
 have J:=D.d.d.d.t7
 refine go [rd 1 5 3 4 1 D]<|IM call406 (Kj l m b j c e p t k q s i z om) J fun _ L=>g0<|nP 203 [iV 0,uV 0] L (fun _ _ M=> ?_)
 refine nP 4 [bF] M (fun N _ O=> ?_)
 refine sA [iV b,uV i] O.a.t9 fun _ P=>sA [bT] P.a.t9 fun _ Q=> ?_
 have S:=Q.f.a.t9
 refine g0<|DF call407 (Fw N H o om) S fun _ E=> ?_
 have T:=E.d.t9
 refine go [rd 5 3 4 4 1 E,.v 5 4 (CD ((b:Int)+1))]<|sP [(4,iV ((b:Int)+1))] [pV j,pV k,iV c,iV e,iV ((b:Int)+1),iV q,bF] T fun _ U=>g0<|dw (AE [0,1,2,3,4,5,6,7,8] Tr.nil) U fun _ A=> ?_
 have V:=A.d.t9
 refine go [rd 6 3 0 4 1 A,rd 6 7 0 2 1 A,.v 6 8 (G9 ((b:Int)+1) (c:Int)),rd 7 3 0 0 1 A]<|AF call408 (uM j c e p t) V fun _ F=> ?_
 have W:=F.x.t9
 refine go [rd 8 3 1 1 1 F]<|AF call409 (JI k c u y om) W fun _ G=>go [rd 9 0 3 0 1 G]<|dw (AE [0,1] (Tr.an 2 (AE [3,4] Tr.nil))) G fun _ B=> ?_
 have X:=B.x.t9
 refine go [rd 11 0 5 0 2 B,rd 11 1 3 0 1 B]<|sB [iV b,uV i] X fun _ C=>⟨kd [rd 0 1 4 0 1 C],?_⟩
 refine g0 ?_
 exact AD (.tuple #[.agg #[iV b,uV i],bT,iV 0]) [rd 0 0 0 0 2 C] C.a.x.d.d.t9.h.d.d.d.d.t5
theorem iE(b n m:Nat)(cy sn nx bg:Int)(ar:Nat)(A:List AM)(s:Nat)(gn rm:Int)(_:0≤(s:Int)-(n:Int)+1)(_:0≤rm-1):HQ 213 [pV b,pV ar,iV rm] [Cy b n m 4 cy sn (s:Int) nx bg,BY ar n m A s gn] (.tuple #[.agg #[iV s,uV gn],bT,iV 0]) [Cy b n m 5 cy 0 ((s:Int)+1) 0 bg,BY ar n m A s gn]:=by
 refine AC func213 ntmps213 fun g w0 R h0=> ?_
 have k:=h0.a.t3
 have i:=HC k;have hin11s:=i.2.1;have hin11g:=i.2.2
 obtain⟨e,f,q,t,u,x,y,P,z⟩:=BT k.a.t3
 have B:sat g _ (Cl b [pV e,pV f,iV n,iV m,iV s,iV bg,bF] 158::_):=z
 refine g0<|nP 203 [iV 0,uV 0] B (fun C _ D=> ?_)
 have E:=D.d.t6
 refine g0<|AF call289 (C3 ar n m A s gn) E fun _ F=> ?_
 have G:=F.b.t6
 refine g0<|AF call114 (Ab b e f n m (s:Int) bg) G fun _ j=>go [.v 2 5 (DR (n:Int) 0),rd 4 4 0 2 1 j,.v 4 5 (Db (n:Int) (n:Int)),rd 4 11 0 3 1 j,.v 4 12 (Db (m:Int) (m:Int)),.v 4 16 (oF (rm<0))]<|dw (AE [1,2,3,4,7,8,9] (Tr.an 0 (Tr.an 5 (Tr.fl 6 (Tr.an 10 (AE [11,12,13] (Tr.an 14 (AE [15,16] Tr.nil)))))))) j fun _ l=>go [rd 6 4 0 0 1 l]<|CJ call290 BI l fun _ o=>⟨kd [rd 0 4 0 0 1 o],?_⟩
 refine BZ call291 (CI e n m cy 4 sn) o.c.t6 fun _ H=>⟨kd [],?_⟩
 have I:=H.d.c.c.c.t6
 refine g0<|Rb call366 (Kl b ar rm e n m cy sn f s bg A gn nx q i.1 om om om om) I fun _ J=>⟨kd [],?_⟩
 have L:=J.d.t6
 refine g0<|sB [iV s,uV gn] L fun M p=>⟨kd [],?_⟩
 refine g0 ?_
 obtain⟨tl_,htl_⟩: ∃z_:Int,z_=0:=⟨_,rfl⟩
 have N:sat g M [Cl f [iV n,iV 0,iV tl_] 263,Cl C [iV s,uV gn] 203,Mr e n m 5 cy 0,Cl b [pV e,pV f,iV n,iV m,iV ((s:Int)+1),iV bg,bF] 158,BY ar n m A s gn,R]:=by rw[htl_];exact p.d.t6
 have O:sat g _ (Cy b n m 5 cy 0 ((s:Int)+1) 0 bg::_):=Az b n m 5 cy 0 ((s:Int)+1) 0 bg e f tl_ t u x y om N.b.c.t6
 exact AD (.tuple #[.agg #[iV s,uV gn],bT,iV 0]) [rd 0 0 0 0 2 p] O.b.a.t4.c.b.b.t3
theorem Km(t q:Nat)(l:Int)(o k m:Nat)(u y:Int)(z:Nat)(A:Int)(p:List AM)(d:Nat)(i:Int)(B:AJ 1 p 0= [(d,i)])(_:0≤l)(_:0≤(k:Int)-l-1)(W:l-(d:Int)≠0):HQ 406 [pV t,pV q,iV l] [Mr o k m 4 u y,Cl t [pV o,pV z,iV k,iV m,iV l,iV A,bF] 158,BY q k m p d i] (.tuple #[.agg #[iV 0,uV 0],bF]) [Mr o k m 4 u y,Cl t [pV o,pV z,iV k,iV m,iV l,iV A,bF] 158,BY q k m p d i]:=by
 refine AC func406 ntmps406 fun g w0 R h0=>g0<|nP 203 [iV 0,uV 0] h0 (fun _ _ F=> ?_)
 have J:=F.a.t5
 refine go [rd 1 3 2 0 1 F]<|AF call434 (H0 o k m u 4 y l om om) J fun _ L=> ?_
 have M:=L.c.t5
 refine g0<|cP call266 (Kb q k m p d i) M ?_
 rintro v K _ (⟨N,O,rfl,rfl⟩) P
 refine cP call435 (Gj N k p d i O B) ((MG P).b.b.t7) ?_
 rintro v K _ (⟨Q,S,rfl,rfl⟩) T
 have G:=MG T
 refine go [.v 4 3 (oJ .i64 (1:Int) 1)]<|DS 39 ?_
 obtain⟨D,E⟩:=Av (j:=2) G rfl om
 refine go [.s 6 0]<|AS (pV D) (Ft (Ot 31) (Ot 33) Q D 0 0 1 S underlying392 2 0 E 0) ?_
 have C:=G.b.t8
 have X:=Ca Bf dc C
 refine go [.r 6 1 D 0 [iV d,uV i] ⟨CM 0 C rfl E Bf 0 (iV d) (show ([(d,i)]:List (Nat×Int))[0]? =some (d,i) from rfl) 0,CM 0 C rfl E Bf 1 (uV i) (show ([(d,i)]:List (Nat×Int))[0]? =some (d,i) from rfl) 1,trivial⟩]<|nP 203 [iV 0,uV 0] C (fun _ _ U=> ?_)
 refine sA [iV d,uV i] U fun _ H=>go [rd 7 1 0 0 1 H,.v 7 3 (Tc (d:Int) l)]<|Bm<|g0<|up ?_
 have V:=H.f.t9
 refine g0<|sA [iV 0,uV 0] V fun _ I=>g0 ?_
 exact AD _ [rd 0 0 0 0 2 I] I.e.x.x.t9.h.c.c.c.t4
theorem Fx(a b:Nat):HQ 407 [pV a,pV b] [Cl a [bF] 4] (bF) [Cl a [bF] 4]:=by
 refine AC func407 ntmps407 fun g w0 R c=>go [rd 1 0 0 0 1 c] ?_
 exact AD _ [] c
theorem JW(m o:Nat)(y:Int)(k i j:Nat)(u x:Int)(p:Nat)(f q:Int)(s:List AM)(l:Nat)(t:Int)(z:AJ 1 s 0= [(l,t)])(_:0≤f)(_:0≤ -f+9223372036854775806)(_:0≤ -f+(i:Int)-2)(V:f-(l:Int)≠0):HQ 366 [pV m,pV o,iV y] [Mr k i j 4 u x,Cl m [pV k,pV p,iV i,iV j,iV f,iV q,bF] 158,BY o i j s l t] (.tuple #[.agg #[iV 0,uV 0],bF,iV 0]) [Mr k i j 4 u x,Cl m [pV k,pV p,iV i,iV j,iV (f+1),iV q,bF] 158,BY o i j s l t]:=by
 refine AC func366 ntmps366 fun g w0 R h0=>g0<|nP 3 [iV y] h0 (fun F _ G=> ?_)
 refine nP 203 [iV 0,uV 0] G (fun _ _ D=> ?_)
 have H:=D.d.d.d.t6
 refine go [rd 1 5 3 4 1 D]<|IM call406 (Km m o f k i j u x p q s l t z om om om) H fun _ I=>g0<|nP 203 [iV 0,uV 0] I (fun _ _ J=> ?_)
 refine nP 4 [bF] J (fun L _ M=> ?_)
 refine sA [iV 0,uV 0] M.a.t8 fun _ N=>sA [bF] N.a.t8 fun _ O=>g0<|AF call407 (Fx L F) O fun _ E=> ?_
 have P:=E.c.t8
 refine go [rd 5 3 3 4 1 E,.v 5 4 (CD (f+1))]<|sP [(4,iV (f+1))] [pV k,pV p,iV i,iV j,iV (f+1),iV q,bF] P fun _ Q=>g0<|dw (AE [0,1,2,3,4,5,6,7,8] Tr.nil) Q fun _ A=> ?_
 have S:=A.b.t8
 refine go [rd 6 3 0 4 1 A,rd 6 7 0 2 1 A,.v 6 8 (DR (f+1) (i:Int)),rd 9 0 1 0 1 A]<|sA [iV 0,uV 0] S fun _ T=>g0<|dw (AE [0,1] (Tr.an 2 (AE [3,4] Tr.nil))) T fun _ B=> ?_
 have U:=B.e.t8
 refine go [rd 11 0 0 0 2 B,rd 11 1 2 0 1 B]<|sB [iV 0,uV 0] U fun _ C=>⟨kd [rd 0 1 3 0 1 C],?_⟩
 refine g0 ?_
 exact AD _ [rd 0 0 0 0 2 C] C.e.c.e.t8.x.c.c.c.t4
theorem uY(b n m:Nat)(cy sn at_ nx bg:Int)(ar:Nat)(A:List AM)(s:Nat)(gn rm:Int)(_:0≤at_)(_:0≤(n:Int)-at_-2)(_:0≤rm)(O:at_-(s:Int)≠0):HQ 213 [pV b,pV ar,iV rm] [Cy b n m 4 cy sn at_ nx bg,BY ar n m A s gn] (.tuple #[.agg #[iV 0,uV 0],bF,iV 0]) [Cy b n m 4 cy sn (at_+1) nx bg,BY ar n m A s gn]:=by
 refine AC func213 ntmps213 fun g w0 R h0=> ?_
 have k:=h0.a.t3
 have i:=HC k;have hin11s:=i.2.1;have hin11g:=i.2.2
 obtain⟨e,f,q,t,u,x,y,P,z⟩:=BT k.a.t3
 have B:sat g _ (Cl b [pV e,pV f,iV n,iV m,iV at_,iV bg,bF] 158::_):=z
 refine g0<|nP 203 [iV 0,uV 0] B (fun C _ D=> ?_)
 have E:=D.d.t6
 refine g0<|AF call289 (C3 ar n m A s gn) E fun _ F=> ?_
 have G:=F.b.t6
 refine g0<|AF call114 (Ab b e f n m at_ bg) G fun _ j=>go [.v 2 5 (DR (n:Int) 0),rd 4 4 0 2 1 j,.v 4 5 (Db (n:Int) (n:Int)),rd 4 11 0 3 1 j,.v 4 12 (Db (m:Int) (m:Int)),.v 4 16 (oF (rm<0))]<|dw (AE [1,2,3,4,7,8,9] (Tr.an 0 (Tr.an 5 (Tr.fl 6 (Tr.an 10 (AE [11,12,13] (Tr.an 14 (AE [15,16] Tr.nil)))))))) j fun _ l=>go [rd 6 4 0 0 1 l]<|CJ call290 BI l fun _ o=>⟨kd [rd 0 4 0 0 1 o],?_⟩
 refine BZ call291 (CI e n m cy 4 sn) o.c.t6 fun _ H=>⟨kd [],?_⟩
 refine g0<|L7 call366 (JW b ar rm e n m cy sn f at_ bg A s gn i.1 om om om om) H fun _ I=>⟨kd [],?_⟩
 have J:=I.c.t6
 refine g0<|sB [iV 0,uV 0] J fun L p=>⟨kd [],?_⟩
 refine g0 ?_
 obtain⟨tl_,htl_⟩: ∃z_:Int,z_=q:=⟨_,rfl⟩
 have M:sat g L [Cl f [iV n,iV nx,iV tl_] 263,Cl C [iV 0,uV 0] 203,Mr e n m 4 cy sn,Cl b [pV e,pV f,iV n,iV m,iV (at_+1),iV bg,bF] 158,BY ar n m A s gn,R]:=by rw[htl_];exact p.d.t6
 have N:sat g _ (Cy b n m 4 cy sn (at_+1) nx bg::_):=Az b n m 4 cy sn (at_+1) nx bg e f tl_ t u x y om M.b.c.t6
 exact AD _ [rd 0 0 0 0 2 p] N.b.a.t4.c.b.b.t3
theorem JX(p q:Nat)(A:Int)(l i k:Nat)(s z:Int)(m:Nat)(j t:Int)(u:List AM)(o:Nat)(y B C:Int)(D:AJ 1 u 0= [(o,y)])(_:0≤j-(o:Int))(_:0≤ -j+9223372036854775806)(_:0≤j-(i:Int)+1)(_:0≤ -j+(i:Int)-1)(ad:j-(o:Int)≠0):HQ 366 [pV p,pV q,iV A] [Mr l i k 4 s z,Cl p [pV l,pV m,iV i,iV k,iV j,iV t,bF] 158,BY q i k u o y,Cl m [iV i,iV B,iV C] 263] (.tuple #[.agg #[iV 0,uV 0],bF,iV 0]) [Mr l i k 5 s 0,Cl p [pV l,pV m,iV i,iV k,iV (j+1),iV t,bF] 158,BY q i k u o y,Cl m [iV i,iV 0,iV 0] 263]:=by
 refine AC func366 ntmps366 fun g w0 R h0=>g0<|nP 3 [iV A] h0 (fun M _ N=> ?_)
 refine nP 203 [iV 0,uV 0] N (fun _ _ H=> ?_)
 have O:=H.d.d.d.t7
 refine go [rd 1 5 3 4 1 H]<|IM call406 (Km p q j l i k s z m t u o y D om om om) O fun _ P=>g0<|nP 203 [iV 0,uV 0] P (fun _ _ Q=> ?_)
 refine nP 4 [bF] Q (fun S _ T=> ?_)
 refine sA [iV 0,uV 0] T.a.t9 fun _ U=>sA [bF] U.a.t9 fun _ V=>g0<|AF call407 (Fx S M) V fun _ I=> ?_
 have W:=I.c.t9
 refine go [rd 5 3 3 4 1 I,.v 5 4 (CD (j+1))]<|sP [(4,iV (j+1))] [pV l,pV m,iV i,iV k,iV (j+1),iV t,bF] W fun _ X=>g0<|dw (AE [0,1,2,3,4,5,6,7,8] Tr.nil) X fun _ E=> ?_
 have Y:=E.c.t9
 refine go [rd 6 3 0 4 1 E,rd 6 7 0 2 1 E,.v 6 8 (G9 (j+1) (i:Int)),rd 7 3 0 0 1 E]<|AF call408 (uM l i k s z) Y fun _ J=> ?_
 have Z:=J.x.t9
 refine go [rd 8 3 1 1 1 J]<|AF call409 (JI m i B C om) Z fun _ L=> ?_
 have aa:=L.d.t9
 refine go [rd 9 0 3 0 1 L]<|sA [iV 0,uV 0] aa fun _ ab=>g0<|dw (AE [0,1] (Tr.an 2 (AE [3,4] Tr.nil))) ab fun _ F=> ?_
 have ac:=F.f.t9
 refine go [rd 11 0 0 0 2 F,rd 11 1 4 0 1 F]<|sB [iV 0,uV 0] ac fun _ G=>⟨kd [rd 0 1 5 0 1 G],?_⟩
 refine g0 ?_
 exact AD _ [rd 0 0 0 0 2 G] G.b.f.e.e.t9.h.d.d.d.d.t5
theorem pW(b n m:Nat)(cy sn at_ nx bg:Int)(ar:Nat)(A:List AM)(s:Nat)(gn rm:Int)(_:0≤at_)(_:0≤at_-(n:Int)+1)(_:0≤(n:Int)-at_-1)(_:0≤rm)(P:at_-(s:Int)≠0):HQ 213 [pV b,pV ar,iV rm] [Cy b n m 4 cy sn at_ nx bg,BY ar n m A s gn] (.tuple #[.agg #[iV 0,uV 0],bF,iV 0]) [Cy b n m 5 cy 0 (at_+1) 0 bg,BY ar n m A s gn]:=by
 refine AC func213 ntmps213 fun g w0 R h0=> ?_
 have k:=h0.a.t3
 have i:=HC k;have hin11s:=i.2.1;have hin11g:=i.2.2
 obtain⟨e,f,q,t,u,x,y,Q,z⟩:=BT k.a.t3
 have B:sat g _ (Cl b [pV e,pV f,iV n,iV m,iV at_,iV bg,bF] 158::_):=z
 refine g0<|nP 203 [iV 0,uV 0] B (fun C _ D=> ?_)
 have E:=D.d.t6
 refine g0<|AF call289 (C3 ar n m A s gn) E fun _ F=> ?_
 have G:=F.b.t6
 refine g0<|AF call114 (Ab b e f n m at_ bg) G fun _ j=>go [.v 2 5 (DR (n:Int) 0),rd 4 4 0 2 1 j,.v 4 5 (Db (n:Int) (n:Int)),rd 4 11 0 3 1 j,.v 4 12 (Db (m:Int) (m:Int)),.v 4 16 (oF (rm<0))]<|dw (AE [1,2,3,4,7,8,9] (Tr.an 0 (Tr.an 5 (Tr.fl 6 (Tr.an 10 (AE [11,12,13] (Tr.an 14 (AE [15,16] Tr.nil)))))))) j fun _ l=>go [rd 6 4 0 0 1 l]<|CJ call290 BI l fun _ o=>⟨kd [rd 0 4 0 0 1 o],?_⟩
 refine BZ call291 (CI e n m cy 4 sn) o.c.t6 fun _ H=>⟨kd [],?_⟩
 have I:=H.d.c.c.c.t6
 refine g0<|Rb call366 (JX b ar rm e n m cy sn f at_ bg A s gn nx q i.1 om om om om om) I fun _ J=>⟨kd [],?_⟩
 have L:=J.d.t6
 refine g0<|sB [iV 0,uV 0] L fun M p=>⟨kd [],?_⟩
 refine g0 ?_
 obtain⟨tl_,htl_⟩: ∃z_:Int,z_=0:=⟨_,rfl⟩
 have N:sat g M [Cl f [iV n,iV 0,iV tl_] 263,Cl C [iV 0,uV 0] 203,Mr e n m 5 cy 0,Cl b [pV e,pV f,iV n,iV m,iV (at_+1),iV bg,bF] 158,BY ar n m A s gn,R]:=by rw[htl_];exact p.d.t6
 have O:sat g _ (Cy b n m 5 cy 0 (at_+1) 0 bg::_):=Az b n m 5 cy 0 (at_+1) 0 bg e f tl_ t u x y om N.b.c.t6
 exact AD _ [rd 0 0 0 0 2 p] O.b.a.t4.c.b.b.t3
theorem Cv(c a:Nat)(b d:Int)(_:0≤(a:Int)-1)(_:0≤ -b+(a:Int)-1):HQ 411 [pV c] [Cl c [iV a,iV b,iV d] 263] (bF) [Cl c [iV a,iV b,iV d] 263]:=by
 refine AC func411 ntmps411 fun g w0 R h0=>g0<|dw (Tr.fl 0 (Tr.an 1 (AE [2,3,4,5,6,7,8,9,10,11,12,13] Tr.nil))) h0 fun _ f=>g0<|BZ call179 (Dm c a b d om) f fun _ e=>⟨kd [],?_⟩
 refine go [rd 1 6 0 1 1 e,rd 1 10 0 0 1 e,.v 1 11 (DR b (a:Int))] ?_
 exact AD _ [] e
theorem JJ(j l e c d:Nat)(f i:Int)(o:List AM)(p:Nat)(q k m:Int)(_:0≤(c:Int)-1)(_:0≤ -(c:Int)+9223372036854775808)(_:0≤ -k+(c:Int)-1):HQ 443 [pV j,pV l,pV e] [Mr e c d 5 f i,BY l c d o p q,Cl j [iV c,iV k,iV m] 263] (iV 0) [Mr e c d 5 f i,BY l c d o p q,Cl j [iV c,iV k,iV m] 263]:=by
 refine AC func443 ntmps443 fun g w0 R h0=> ?_
 have x:=h0.a.t4
 refine g0<|AF call289 (C3 l c d o p q) x fun _ y=> ?_
 have z:=y.a.t4
 refine g0<|AF call434 (H0 e c d f 5 i 0 om om) z fun _ A=> ?_
 have B:=A.b.t4
 refine g0<|AF call179 (Dm j c k m om) B fun _ s=> ?_
 have C:=s.a.t4
 refine go [.v 3 5 (DR (c:Int) 0),rd 5 4 0 0 1 s,.v 5 5 (CD ((c:Int)-1))]<|AF call434 (H0 e c d f 5 i ((c:Int)-1) om om) C fun _ t=>go [rd 6 4 1 0 1 t]<|AF call434 (ZV e c d f 5 i) t fun _ u=> ?_
 have D:=u.a.t4
 refine go [rd 7 4 1 0 1 u,.v 7 5 (Db (c:Int) (c:Int))]<|AF call411 (Cv j c k m om om) D fun _ E=> ?_
 have F:=E.a.t4
 refine g0<|AF call291 (CI e c d f 5 i) F fun _ G=>g0 ?_
 exact AD _ [] G.b.a.t4
theorem QS(b:Nat)(e:Int)(d:Nat)(c:Int)(i:c-(b:Int)≠0):HQ 445 [.agg #[iV b,uV e],pV d] [Cl d [iV c] 3] (bF) [Cl d [iV c] 3]:=by
 refine AC func445 ntmps445 fun g w0 R h0=>g0<|nP 203 [iV b,uV e] h0 (fun _ _ f=> ?_)
 refine go [rd 1 1 0 0 1 f,rd 1 2 1 0 1 f,.v 1 3 (DR (b:Int) c)] ?_
 exact AD _ [] f.a.t3.b.a.t2
theorem WI(d:Option Addr)(e f b:Nat)(c i:Int)(q:i-(b:Int)≠0):HQ 444 [.slice d 1 e,.func (Fn.func 445) #[] #[pV f]] [Sl 203 2 d 1 e (fl He [(b,c)]),Cl f [iV i] 3] (iV (-1)) [Sl 203 2 d 1 e (fl He [(b,c)]),Cl f [iV i] 3]:=by
 refine AC func444 ntmps444 fun g w0 R k=>go [.v 1 1 (oJ .i64 (1:Int) 1)]<|DS 39 ?_
 obtain⟨l,m⟩:=Av (j:=0) k rfl om
 refine go [.s 4 3]<|AS (pV l) (Ft (Ot 12) (Ot 13) d l 0 0 1 e underlying392 2 0 m 0) ?_
 have t:=Ca Bf dc k
 have o:=k.a.t3
 refine go [.r 4 4 l 0 [iV b,uV c] ⟨CM 0 k rfl m Bf 0 (iV b) (show ([(b,c)]:List (Nat×Int))[0]? =some (b,c) from rfl) 0,CM 0 k rfl m Bf 1 (uV c) (show ([(b,c)]:List (Nat×Int))[0]? =some (b,c) from rfl) 1,trivial⟩]<|AF call445 (QS b c f i om) o fun _ p=>g0<|Bm<|g0<|up<|g0 ?_
 exact AD _ [] p.a.t3
theorem Kn(p m o a j:Nat)(q s:Int)(l:List AM)(i:Nat)(k d t:Int)(u:AJ 1 l 0= [(i,k)])(_:0≤ -(a:Int)+9223372036854775808)(_:0≤ -d+9223372036854775806)(_:0≤d)(_:0≤(a:Int)-d-1)(V:d-(i:Int)≠0):HQ 410 [pV p,pV m,pV o] [Mr o a j 5 q s,BY m a j l i k,Cl p [iV a,iV d,iV t] 263] (.tuple #[.agg #[iV 0,uV 0],bF,iV 0]) [Mr o a j 5 q s,BY m a j l i k,Cl p [iV a,iV (d+1),iV t] 263]:=by
 refine AC func410 ntmps410 fun g w0 R h0=>g0<|nP 203 [iV 0,uV 0] h0 (fun _ _ C=> ?_)
 have D:=C.c.c.c.t5
 refine g0<|IM call443 (JJ p m o a j q s l i k d t om om om) D fun _ y=>go [rd 4 3 2 1 1 y]<|nP 3 [iV 0] y (fun E _ F=> ?_)
 refine sA [iV d] F fun _ z=> ?_
 have G:=z.c.t6
 refine go [rd 5 3 3 1 1 z,.v 5 4 (CD (d+1))]<|sP [(1,iV (d+1))] [iV a,iV (d+1),iV t] G fun _ H=> ?_
 have I:=H.c.t6
 refine g0<|cP call266 (Kb m a j l i k) I ?_
 rintro v K _ (⟨J,L,rfl,rfl⟩) M
 refine cP call435 (Gj J a l i k L u) ((MG M).b.b.t8) ?_
 rintro v K _ (⟨N,O,rfl,rfl⟩) P
 have Q:=(MG P).e.c.t9
 refine g0<|DF call444 (WI N O E i k d om) Q fun _ A=> ?_
 have S:=A.f.t9
 refine go [rd 8 1 1 0 1 A]<|AF call434 (H0 o a j q 5 s d om om) S fun _ T=> ?_
 have U:=T.x.t9
 refine g0<|sA [iV 0,uV 0] U fun _ B=>g0 ?_
 exact AD _ [rd 0 0 0 0 2 B] B.x.x.c.t9.h.c.c.c.t4
theorem QT(u o:Nat)(A:Int)(k b i:Nat)(s t:Int)(j:Nat)(x y:Int)(p:List AM)(l:Nat)(q f m:Int)(z:AJ 1 p 0= [(l,q)])(_:0≤ -(b:Int)+9223372036854775808)(_:0≤f)(_:0≤ -f+(b:Int)-2)(U:f-(l:Int)≠0):HQ 367 [pV u,pV o,iV A] [Mr k b i 5 s t,Cl u [pV k,pV j,iV b,iV i,iV x,iV y,bF] 158,BY o b i p l q,Cl j [iV b,iV f,iV m] 263] (.tuple #[.agg #[iV 0,uV 0],bF,iV 0]) [Mr k b i 5 s t,Cl u [pV k,pV j,iV b,iV i,iV x,iV y,bF] 158,BY o b i p l q,Cl j [iV b,iV (f+1),iV m] 263]:=by
 refine AC func367 ntmps367 fun g w0 R h0=>g0<|nP 203 [iV 0,uV 0] h0 (fun _ _ H=> ?_)
 refine g0<|dw (AE [0,1,2,3,4,5,6,7,8] (Tr.an2 9 (AE [10,11,12,13] (Tr.an 14 (Tr.an 15 (AE [16,17] Tr.nil)))) 14 (Tr.an 9 (AE [10,11,12,13] (Tr.an 15 (AE [16,17] Tr.nil)))))) H fun _ B=>go [rd 1 3 2 1 1 B,rd 1 8 2 0 1 B] ?_
 refine IN ?_ ?_
 ·
  refine L7 call410 (Kn j o k b i s t p l q f m z om om om om om) B.d.d.c.t6 fun _ I=>⟨kd [],?_⟩
  refine g0<|nG (fun q_=>pV q_) 203 [iV 0,uV 0] I (fun _ _ J=>⟨kd [],?_⟩)
  refine sB [iV 0,uV 0] J fun _ D=>⟨kd [],?_⟩
  have L:=D.c.t7
  refine go [rd 2 6 5 1 1 D]<|AF call411 (Cv j b (f+1) m om om) L fun _ M=> ?_
  have N:=M.d.t7
  refine g0<|sA [iV 0,uV 0] N fun _ E=>g0 ?_
  exact AD _ [rd 0 0 0 0 2 E] E.a.d.e.e.t7.f.d.d.d.d.t5
 refine nG (fun q_=>pV q_) 203 [iV 0,uV 0] B (fun _ _ C=>⟨kd [rd 0 8 3 0 1 C,rd 0 3 3 1 1 C],?_⟩)
 refine L7 call410 (Kn j o k b i s t p l q f m z om om om om om) C.e.e.d.t7 fun _ O=>⟨kd [],?_⟩
 have P:=O.c.t7
 refine g0<|sB [iV 0,uV 0] P fun _ F=>⟨kd [],?_⟩
 have Q:=F.c.t7
 refine go [rd 2 6 5 1 1 F]<|AF call411 (Cv j b (f+1) m om om) Q fun _ S=> ?_
 have T:=S.d.t7
 refine g0<|sA [iV 0,uV 0] T fun _ G=>g0 ?_
 exact AD _ [rd 0 0 0 0 2 G] G.a.d.e.e.t7.f.d.d.d.d.t5
theorem uZ(b n m:Nat)(cy sn at_ nx bg:Int)(ar:Nat)(A:List AM)(s:Nat)(gn rm:Int)(_:0≤nx)(_:0≤(n:Int)-nx-2)(_:0≤rm)(P:nx-(s:Int)≠0):HQ 213 [pV b,pV ar,iV rm] [Cy b n m 5 cy sn at_ nx bg,BY ar n m A s gn] (.tuple #[.agg #[iV 0,uV 0],bF,iV 0]) [Cy b n m 5 cy sn at_ (nx+1) bg,BY ar n m A s gn]:=by
 refine AC func213 ntmps213 fun g w0 R h0=> ?_
 have k:=h0.a.t3
 have i:=HC k;have hin11s:=i.2.1;have hin11g:=i.2.2
 obtain⟨e,f,l,t,u,x,y,Q,z⟩:=BT k.a.t3
 have B:sat g _ (Cl b [pV e,pV f,iV n,iV m,iV at_,iV bg,bF] 158::_):=z
 refine g0<|nP 203 [iV 0,uV 0] B (fun C _ D=> ?_)
 have E:=D.d.t6
 refine g0<|AF call289 (C3 ar n m A s gn) E fun _ F=> ?_
 have G:=F.b.t6
 refine g0<|AF call114 (Ab b e f n m at_ bg) G fun _ j=>go [.v 2 5 (DR (n:Int) 0),rd 4 4 0 2 1 j,.v 4 5 (Db (n:Int) (n:Int)),rd 4 11 0 3 1 j,.v 4 12 (Db (m:Int) (m:Int)),.v 4 16 (oF (rm<0))]<|dw (AE [1,2,3,4,7,8,9] (Tr.an 0 (Tr.an 5 (Tr.fl 6 (Tr.an 10 (AE [11,12,13] (Tr.an 14 (AE [15,16] Tr.nil)))))))) j fun _ o=>go [rd 6 4 0 0 1 o]<|CJ call290 BI o fun _ p=>⟨kd [rd 0 4 0 0 1 p],?_⟩
 refine BZ call291 (CI e n m cy 5 sn) p.c.t6 fun _ H=>⟨kd [],?_⟩
 have I:=H.d.c.c.c.t6
 refine g0<|Rb call367 (QT b ar rm e n m cy sn f at_ bg A s gn nx l i.1 om om om om) I fun _ J=>⟨kd [],?_⟩
 have L:=J.d.t6
 refine g0<|sB [iV 0,uV 0] L fun M q=>⟨kd [],?_⟩
 refine g0 ?_
 obtain⟨tl_,htl_⟩: ∃z_:Int,z_=l:=⟨_,rfl⟩
 have N:sat g M [Cl f [iV n,iV (nx+1),iV tl_] 263,Cl C [iV 0,uV 0] 203,Mr e n m 5 cy sn,Cl b [pV e,pV f,iV n,iV m,iV at_,iV bg,bF] 158,BY ar n m A s gn,R]:=by rw[htl_];exact q.d.t6
 have O:sat g _ (Cy b n m 5 cy sn at_ (nx+1) bg::_):=Az b n m 5 cy sn at_ (nx+1) bg e f tl_ t u x y om N.b.c.t6
 exact AD _ [rd 0 0 0 0 2 q] O.b.a.t4.c.b.b.t3
theorem QU(b:Nat)(d:Int)(c:Nat):HQ 445 [.agg #[iV b,uV d],pV c] [Cl c [iV b] 3] (bT) [Cl c [iV b] 3]:=by
 refine AC func445 ntmps445 fun g w0 R h0=>g0<|nP 203 [iV b,uV d] h0 (fun _ _ e=> ?_)
 refine go [rd 1 1 0 0 1 e,rd 1 2 1 0 1 e,.v 1 3 (G9 (b:Int) (b:Int))] ?_
 exact AD _ [] e.a.t3.b.a.t2
theorem WJ(d:Option Addr)(e f b:Nat)(c:Int):HQ 444 [.slice d 1 e,.func (Fn.func 445) #[] #[pV f]] [Sl 203 2 d 1 e (fl He [(b,c)]),Cl f [iV b] 3] (iV 0) [Sl 203 2 d 1 e (fl He [(b,c)]),Cl f [iV b] 3]:=by
 refine AC func444 ntmps444 fun g w0 R i=>go [.v 1 1 (oJ .i64 (1:Int) 1)]<|DS 39 ?_
 obtain⟨k,l⟩:=Av (j:=0) i rfl om
 refine go [.s 4 3]<|AS (pV k) (Ft (Ot 12) (Ot 13) d k 0 0 1 e underlying392 2 0 l 0) ?_
 have p:=Ca Bf dc i
 have m:=i.a.t3
 refine go [.r 4 4 k 0 [iV b,uV c] ⟨CM 0 i rfl l Bf 0 (iV b) (show ([(b,c)]:List (Nat×Int))[0]? =some (b,c) from rfl) 0,CM 0 i rfl l Bf 1 (uV c) (show ([(b,c)]:List (Nat×Int))[0]? =some (b,c) from rfl) 1,trivial⟩]<|AF call445 (QU b c f) m fun _ o=>g0<|up<|g0 ?_
 exact AD _ [] o.a.t3
theorem Sk(b c d:Nat)(a:Int)(_:0≤a+9223372036854775809)(_:0≤ -a+9223372036854775806):HQ 448 [.pointer (some ⟨b,2,none⟩)] [Cl b [iV c,iV ((d:Int)+1),iV a] 263] (.tuple #[]) [Cl b [iV c,iV ((d:Int)+1),iV (a+1)] 263]:=by
 refine AC func448 ntmps448 fun g w0 R e=>go [rd 0 3 0 2 1 e,.v 0 4 (CD (a+1))]<|sP [(2,iV (a+1))] [iV c,iV ((d:Int)+1),iV (a+1)] e fun _ f=>g0 ?_
 exact AD _ [] f
theorem En(t p q k l:Nat)(u y:Int)(m:List AM)(d:Nat)(i o:Int)(z:AJ 1 m 0= [(d,i)])(_:0≤ -(k:Int)+9223372036854775808)(_:0≤ -(d:Int)+9223372036854775806)(_:0≤(k:Int)-(d:Int)-1)(_:0≤o+9223372036854775809)(_:0≤ -o+9223372036854775806):HQ 410 [pV t,pV p,pV q] [Mr q k l 5 u y,BY p k l m d i,Cl t [iV k,iV d,iV o] 263] (.tuple #[.agg #[iV d,uV i],bT,iV 0]) [Mr q k l 5 u y,B2 p k l (Ak m d i),Cl t [iV k,iV ((d:Int)+1),iV (o+1)] 263]:=by
 refine AC func410 ntmps410 fun g w0 R h0=>g0<|nP 203 [iV 0,uV 0] h0 (fun _ _ N=> ?_)
 have O:=N.c.c.c.t5
 refine g0<|IM call443 (JJ t p q k l u y m d i (d:Int) o om om om) O fun _ G=>go [rd 4 3 2 1 1 G]<|nP 3 [iV 0] G (fun P _ Q=> ?_)
 refine sA [iV d] Q fun _ H=> ?_
 have S:=H.c.t6
 refine go [rd 5 3 3 1 1 H,.v 5 4 (CD ((d:Int)+1))]<|sP [(1,iV ((d:Int)+1))] [iV k,iV ((d:Int)+1),iV o] S fun _ T=> ?_
 have U:=T.c.t6
 refine g0<|cP call266 (Kb p k l m d i) U ?_
 rintro v K _ (⟨V,W,rfl,rfl⟩) X
 refine cP call435 (Gj V k m d i W z) ((MG X).b.b.t8) ?_
 rintro v K _ (⟨D,E,rfl,rfl⟩) Y
 have Z:=(MG Y).e.c.t9
 refine g0<|DF call444 (WJ D E P d i) Z fun _ I=> ?_
 have aa:=I.f.t9
 refine go [rd 8 1 1 0 1 I]<|AF call434 (H0 q k l u 5 y (d:Int) om om) aa fun _ J=> ?_
 obtain⟨A,B⟩:=Av (j:=1) J rfl om
 refine go [.s 11 3]<|AS (pV A) (Ft (Ot 53) (Ot 54) D A 0 0 1 E underlying392 2 0 B 0) ?_
 have C:=J.a.t9
 have ag:=Ca Bf dc C
 have ab:=C.e.t9
 refine go [.r 11 4 A 0 [iV d,uV i] ⟨CM 0 C rfl B Bf 0 (iV d) (show ([(d,i)]:List (Nat×Int))[0]? =some (d,i) from rfl) 0,CM 0 C rfl B Bf 1 (uV i) (show ([(d,i)]:List (Nat×Int))[0]? =some (d,i) from rfl) 1,trivial⟩]<|AF call446 (ZS p k l m d i) ab fun _ L=> ?_
 have ac:=L.b.t9
 refine go [rd 12 1 3 0 1 L]<|AF call447 (pJ q k l u 5 y (d:Int) om om) ac fun _ ad=> ?_
 have ae:=ad.f.t9
 refine g0<|AF call448 (Sk t k d o om om) ae fun _ F=>go [.s 14 2]<|AS (pV A) (Ft (Ot 65) (Ot 66) D A 0 0 1 E underlying392 2 0 B 0) ?_
 have af:=F.x.t9
 refine go [.r 14 3 A 0 [iV d,uV i] ⟨CM 3 F rfl B Bf 0 (iV d) (show ([(d,i)]:List (Nat×Int))[0]? =some (d,i) from rfl) 0,CM 3 F rfl B Bf 1 (uV i) (show ([(d,i)]:List (Nat×Int))[0]? =some (d,i) from rfl) 1,trivial⟩]<|sA [iV d,uV i] af fun _ M=>g0 ?_
 exact AD (.tuple #[.agg #[iV d,uV i],bT,iV 0]) [rd 0 0 0 0 2 M] M.a.c.c.t9.h.c.c.c.t4
theorem OF(t o:Nat)(z:Int)(m b i:Nat)(q s:Int)(j:Nat)(u x:Int)(p:List AM)(f:Nat)(l k:Int)(y:AJ 1 p 0= [(f,l)])(_:0≤ -(b:Int)+9223372036854775808)(_:0≤k+9223372036854775809)(_:0≤ -k+9223372036854775806)(_:0≤ -(f:Int)+(b:Int)-2):HQ 367 [pV t,pV o,iV z] [Mr m b i 5 q s,Cl t [pV m,pV j,iV b,iV i,iV u,iV x,bF] 158,BY o b i p f l,Cl j [iV b,iV f,iV k] 263] (.tuple #[.agg #[iV 0,uV 0],bF,iV 0]) [Mr m b i 5 q s,Cl t [pV m,pV j,iV b,iV i,iV u,iV x,bF] 158,B2 o b i (Ak p f l),Cl j [iV b,iV ((f:Int)+1),iV (k+1)] 263]:=by
 refine AC func367 ntmps367 fun g w0 R h0=>g0<|nP 203 [iV 0,uV 0] h0 (fun _ _ G=> ?_)
 refine g0<|dw (AE [0,1,2,3,4,5,6,7,8] (Tr.an2 9 (AE [10,11,12,13] (Tr.an 14 (Tr.an 15 (AE [16,17] Tr.nil)))) 14 (Tr.an 9 (AE [10,11,12,13] (Tr.an 15 (AE [16,17] Tr.nil)))))) G fun _ A=>go [rd 1 3 2 1 1 A,rd 1 8 2 0 1 A] ?_
 refine IN ?_ ?_
 ·
  refine L7 call410 (En j o m b i q s p f l k y om om om om om) A.d.d.c.t6 fun _ H=>⟨kd [],?_⟩
  refine g0<|nG (fun q_=>pV q_) 203 [iV 0,uV 0] H (fun _ _ I=>⟨kd [],?_⟩)
  refine sB [iV f,uV l] I fun _ C=>⟨kd [],?_⟩
  have J:=C.c.t7
  refine go [rd 2 6 5 1 1 C]<|AF call411 (Cv j b ((f:Int)+1) (k+1) om om) J fun _ L=> ?_
  have M:=L.d.t7
  refine g0<|sA [iV 0,uV 0] M fun _ D=>g0 ?_
  exact AD _ [rd 0 0 0 0 2 D] D.a.d.e.e.t7.f.d.d.d.d.t5
 refine nG (fun q_=>pV q_) 203 [iV 0,uV 0] A (fun _ _ B=>⟨kd [rd 0 8 3 0 1 B,rd 0 3 3 1 1 B],?_⟩)
 refine L7 call410 (En j o m b i q s p f l k y om om om om om) B.e.e.d.t7 fun _ N=>⟨kd [],?_⟩
 have O:=N.c.t7
 refine g0<|sB [iV f,uV l] O fun _ E=>⟨kd [],?_⟩
 have P:=E.c.t7
 refine go [rd 2 6 5 1 1 E]<|AF call411 (Cv j b ((f:Int)+1) (k+1) om om) P fun _ Q=> ?_
 have S:=Q.d.t7
 refine g0<|sA [iV 0,uV 0] S fun _ F=>g0 ?_
 exact AD _ [rd 0 0 0 0 2 F] F.a.d.e.e.t7.f.d.d.d.d.t5
theorem pX(b n m:Nat)(cy sn at_ bg:Int)(ar:Nat)(A:List AM)(s:Nat)(gn rm:Int)(_:0≤(n:Int)-(s:Int)-2)(_:0≤rm):HQ 213 [pV b,pV ar,iV rm] [Cy b n m 5 cy sn at_ (s:Int) bg,BY ar n m A s gn] (.tuple #[.agg #[iV 0,uV 0],bF,iV 0]) [Cy b n m 5 cy sn at_ ((s:Int)+1) bg,B2 ar n m (Ak A s gn)]:=by
 refine AC func213 ntmps213 fun g w0 R h0=> ?_
 have k:=h0.a.t3
 have i:=HC k;have hin11s:=i.2.1;have hin11g:=i.2.2
 obtain⟨e,f,l,t,u,x,y,P,z⟩:=BT k.a.t3
 have B:sat g _ (Cl b [pV e,pV f,iV n,iV m,iV at_,iV bg,bF] 158::_):=z
 refine g0<|nP 203 [iV 0,uV 0] B (fun C _ D=> ?_)
 have E:=D.d.t6
 refine g0<|AF call289 (C3 ar n m A s gn) E fun _ F=> ?_
 have G:=F.b.t6
 refine g0<|AF call114 (Ab b e f n m at_ bg) G fun _ j=>go [.v 2 5 (DR (n:Int) 0),rd 4 4 0 2 1 j,.v 4 5 (Db (n:Int) (n:Int)),rd 4 11 0 3 1 j,.v 4 12 (Db (m:Int) (m:Int)),.v 4 16 (oF (rm<0))]<|dw (AE [1,2,3,4,7,8,9] (Tr.an 0 (Tr.an 5 (Tr.fl 6 (Tr.an 10 (AE [11,12,13] (Tr.an 14 (AE [15,16] Tr.nil)))))))) j fun _ o=>go [rd 6 4 0 0 1 o]<|CJ call290 BI o fun _ p=>⟨kd [rd 0 4 0 0 1 p],?_⟩
 refine BZ call291 (CI e n m cy 5 sn) p.c.t6 fun _ H=>⟨kd [],?_⟩
 have I:=H.d.c.c.c.t6
 refine g0<|Rb call367 (OF b ar rm e n m cy sn f at_ bg A s gn l i.1 om om om om) I fun _ J=>⟨kd [],?_⟩
 have L:=J.d.t6
 refine g0<|sB [iV 0,uV 0] L fun M q=>⟨kd [],?_⟩
 refine g0 ?_
 obtain⟨tl_,htl_⟩: ∃z_:Int,z_=l+1:=⟨_,rfl⟩
 have N:sat g M [Cl f [iV n,iV ((s:Int)+1),iV tl_] 263,Cl C [iV 0,uV 0] 203,Mr e n m 5 cy sn,Cl b [pV e,pV f,iV n,iV m,iV at_,iV bg,bF] 158,B2 ar n m (Ak A s gn),R]:=by rw[htl_];exact q.d.t6
 have O:sat g _ (Cy b n m 5 cy sn at_ ((s:Int)+1) bg::_):=Az b n m 5 cy sn at_ ((s:Int)+1) bg e f tl_ t u x y om N.b.c.t6
 exact AD _ [rd 0 0 0 0 2 q] O.b.a.t4.c.b.b.t3
theorem JK(c a b:Nat)(d:Int)(_:0≤(a:Int)-(b:Int)+1)(_:0≤ -(a:Int)+(b:Int)-1):HQ 411 [pV c] [Cl c [iV b,iV ((a:Int)+1),iV (d+1)] 263] (bT) [Cl c [iV b,iV ((a:Int)+1),iV (d+1)] 263]:=by
 refine AC func411 ntmps411 fun g w0 R h0=>g0<|dw (Tr.fl 0 (Tr.an 1 (AE [2,3,4,5,6,7,8,9,10,11,12,13] Tr.nil))) h0 fun _ f=>g0<|BZ call179 (Dm c b ((a:Int)+1) (d+1) om) f fun _ e=>⟨kd [],?_⟩
 refine go [rd 1 6 0 1 1 e,rd 1 10 0 0 1 e,.v 1 11 (G9 ((a:Int)+1) (b:Int))] ?_
 exact AD _ [] e
theorem OG(t p:Nat)(z:Int)(j a i:Nat)(k q:Int)(l:Nat)(u x:Int)(s:List AM)(f:Nat)(o m:Int)(y:AJ 1 s 0= [(f,o)])(_:0≤ -(f:Int)+9223372036854775806)(_:0≤m+9223372036854775809)(_:0≤ -m+9223372036854775806)(_:0≤(f:Int)-(a:Int)+1)(_:0≤ -(f:Int)+(a:Int)-1)(_:0≤k)(_:0≤ -k+1000000):HQ 367 [pV t,pV p,iV z] [Mr j a i 5 k q,Cl t [pV j,pV l,iV a,iV i,iV u,iV x,bF] 158,BY p a i s f o,Cl l [iV a,iV f,iV m] 263] (.tuple #[.agg #[iV 0,uV 0],bF,iV 0]) [Mr j a i 0 (k+1) 0,Cl t [pV j,pV l,iV a,iV i,iV u,iV x,bF] 158,B2 p a i (Ak s f o),Cl l [iV a,iV ((f:Int)+1),iV (m+1)] 263]:=by
 refine AC func367 ntmps367 fun g w0 R h0=>g0<|nP 203 [iV 0,uV 0] h0 (fun _ _ I=> ?_)
 refine g0<|dw (AE [0,1,2,3,4,5,6,7,8] (Tr.an2 9 (AE [10,11,12,13] (Tr.an 14 (Tr.an 15 (AE [16,17] Tr.nil)))) 14 (Tr.an 9 (AE [10,11,12,13] (Tr.an 15 (AE [16,17] Tr.nil)))))) I fun _ A=>go [rd 1 3 2 1 1 A,rd 1 8 2 0 1 A] ?_
 refine IN ?_ ?_
 ·
  refine L7 call410 (En l p j a i k q s f o m y om om om om om) A.d.d.c.t6 fun _ J=>⟨kd [],?_⟩
  refine g0<|nG (fun q_=>pV q_) 203 [iV 0,uV 0] J (fun _ _ L=>⟨kd [],?_⟩)
  refine sB [iV f,uV o] L fun _ C=>⟨kd [],?_⟩
  have M:=C.c.t7
  refine go [rd 2 6 5 1 1 C]<|AF call411 (JK l f a m om om) M fun _ D=> ?_
  have N:=D.b.t7
  refine go [rd 3 3 5 0 1 D]<|AF call408 (hC j a i k q om om) N fun _ O=> ?_
  have P:=O.d.t7
  refine g0<|sA [iV 0,uV 0] P fun _ E=>g0 ?_
  exact AD _ [rd 0 0 0 0 2 E] E.b.d.e.d.t7.f.d.d.d.d.t5
 refine nG (fun q_=>pV q_) 203 [iV 0,uV 0] A (fun _ _ B=>⟨kd [rd 0 8 3 0 1 B,rd 0 3 3 1 1 B],?_⟩)
 refine L7 call410 (En l p j a i k q s f o m y om om om om om) B.e.e.d.t7 fun _ Q=>⟨kd [],?_⟩
 have S:=Q.c.t7
 refine g0<|sB [iV f,uV o] S fun _ F=>⟨kd [],?_⟩
 have T:=F.c.t7
 refine go [rd 2 6 5 1 1 F]<|AF call411 (JK l f a m om om) T fun _ G=> ?_
 have U:=G.b.t7
 refine go [rd 3 3 5 0 1 G]<|AF call408 (hC j a i k q om om) U fun _ V=> ?_
 have W:=V.d.t7
 refine g0<|sA [iV 0,uV 0] W fun _ H=>g0 ?_
 exact AD _ [rd 0 0 0 0 2 H] H.b.d.e.d.t7.f.d.d.d.d.t5
theorem iF(b n m:Nat)(cy sn at_ bg:Int)(ar:Nat)(A:List AM)(s:Nat)(gn rm:Int)(_:0≤(s:Int)-(n:Int)+1)(_:0≤cy)(_:0≤ -cy+1000000)(_:0≤rm):HQ 213 [pV b,pV ar,iV rm] [Cy b n m 5 cy sn at_ (s:Int) bg,BY ar n m A s gn] (.tuple #[.agg #[iV 0,uV 0],bF,iV 0]) [Cy b n m 0 (cy+1) 0 at_ ((s:Int)+1) bg,B2 ar n m (Ak A s gn)]:=by
 refine AC func213 ntmps213 fun g w0 R h0=> ?_
 have k:=h0.a.t3
 have i:=HC k;have hin11s:=i.2.1;have hin11g:=i.2.2
 obtain⟨e,f,l,t,u,x,y,P,z⟩:=BT k.a.t3
 have B:sat g _ (Cl b [pV e,pV f,iV n,iV m,iV at_,iV bg,bF] 158::_):=z
 refine g0<|nP 203 [iV 0,uV 0] B (fun C _ D=> ?_)
 have E:=D.d.t6
 refine g0<|AF call289 (C3 ar n m A s gn) E fun _ F=> ?_
 have G:=F.b.t6
 refine g0<|AF call114 (Ab b e f n m at_ bg) G fun _ j=>go [.v 2 5 (DR (n:Int) 0),rd 4 4 0 2 1 j,.v 4 5 (Db (n:Int) (n:Int)),rd 4 11 0 3 1 j,.v 4 12 (Db (m:Int) (m:Int)),.v 4 16 (oF (rm<0))]<|dw (AE [1,2,3,4,7,8,9] (Tr.an 0 (Tr.an 5 (Tr.fl 6 (Tr.an 10 (AE [11,12,13] (Tr.an 14 (AE [15,16] Tr.nil)))))))) j fun _ o=>go [rd 6 4 0 0 1 o]<|CJ call290 BI o fun _ p=>⟨kd [rd 0 4 0 0 1 p],?_⟩
 refine BZ call291 (CI e n m cy 5 sn) p.c.t6 fun _ H=>⟨kd [],?_⟩
 have I:=H.d.c.c.c.t6
 refine g0<|Rb call367 (OG b ar rm e n m cy sn f at_ bg A s gn l i.1 om om om om om om om) I fun _ J=>⟨kd [],?_⟩
 have L:=J.d.t6
 refine g0<|sB [iV 0,uV 0] L fun M q=>⟨kd [],?_⟩
 refine g0 ?_
 obtain⟨tl_,htl_⟩: ∃z_:Int,z_=l+1:=⟨_,rfl⟩
 have N:sat g M [Cl f [iV n,iV ((s:Int)+1),iV tl_] 263,Cl C [iV 0,uV 0] 203,Mr e n m 0 (cy+1) 0,Cl b [pV e,pV f,iV n,iV m,iV at_,iV bg,bF] 158,B2 ar n m (Ak A s gn),R]:=by rw[htl_];exact q.d.t6
 have O:sat g _ (Cy b n m 0 (cy+1) 0 at_ ((s:Int)+1) bg::_):=Az b n m 0 (cy+1) 0 at_ ((s:Int)+1) bg e f tl_ t u x y om N.b.c.t6
 exact AD _ [rd 0 0 0 0 2 q] O.b.a.t4.c.b.b.t3
theorem OH(j l e c d:Nat)(f i:Int)(o:List AM)(k m:Int)(_:0≤(c:Int)-1)(_:0≤ -(c:Int)+9223372036854775808)(_:0≤ -k+(c:Int)-1):HQ 443 [pV j,pV l,pV e] [Mr e c d 5 f i,B2 l c d o,Cl j [iV c,iV k,iV m] 263] (iV 0) [Mr e c d 5 f i,B2 l c d o,Cl j [iV c,iV k,iV m] 263]:=by
 refine AC func443 ntmps443 fun g w0 R h0=> ?_
 have t:=h0.a.t4
 refine g0<|AF call289 (Hx l c d o) t fun _ u=> ?_
 have x:=u.a.t4
 refine g0<|AF call434 (H0 e c d f 5 i 0 om om) x fun _ y=> ?_
 have z:=y.b.t4
 refine g0<|AF call179 (Dm j c k m om) z fun _ p=> ?_
 have A:=p.a.t4
 refine go [.v 3 5 (DR (c:Int) 0),rd 5 4 0 0 1 p,.v 5 5 (CD ((c:Int)-1))]<|AF call434 (H0 e c d f 5 i ((c:Int)-1) om om) A fun _ q=>go [rd 6 4 1 0 1 q]<|AF call434 (ZV e c d f 5 i) q fun _ s=> ?_
 have B:=s.a.t4
 refine go [rd 7 4 1 0 1 s,.v 7 5 (Db (c:Int) (c:Int))]<|AF call411 (Cv j c k m om om) B fun _ C=> ?_
 have D:=C.a.t4
 refine g0<|AF call291 (CI e c d f 5 i) D fun _ E=>g0 ?_
 exact AD _ [] E.b.a.t4
theorem Sm(e c:Nat)(f:List AM)(d:Nat)(i:AJ 1 f 0= []):HT prog 435 [pV e] [Cl e (pV d::iV c::fl Ce F256) 237,Tb d c f] (fun v K=> ∃j:Option Addr,∃k:Nat,v= .slice j 0 k∧K= [Cl e (pV d::iV c::fl Ce F256) 237,Tb d c f,Sl 203 2 j 0 k (fl He [])]):=by
 refine AC func435 ntmps435 fun g w0 R h0=>g0<|AF call173 (Ej e d c) h0 fun _ l=> ?_
 have m:=l.a.t3
 refine go [rd 3 3 0 0 1 l]<|cP call459 (Vt d c f i) m ?_
 rintro v K _ (⟨j,k,rfl,rfl⟩) o
 have p:=CW o
 refine g0 ?_
 exact en _ [] ⟨_,_,rfl,⟨j,k,rfl,rfl⟩,p.b.t4⟩
theorem Sn(a:Option Addr)(b c:Nat):HQ 444 [.slice a 0 b,.func (Fn.func 445) #[] #[pV c]] [] (iV (-1)) []:=by
 refine AC func444 ntmps444 fun g w0 R h0=>g0<|DS 39<|g0<|up<|g0 ?_
 exact AD _ [] h0
theorem Eo(l j k a e:Nat)(m o:Int)(i:List AM)(d p:Int)(q:AJ 1 i 0= [])(_:0≤ -(a:Int)+9223372036854775808)(_:0≤ -d+9223372036854775806)(_:0≤d)(_:0≤(a:Int)-d-1):HQ 410 [pV l,pV j,pV k] [Mr k a e 5 m o,B2 j a e i,Cl l [iV a,iV d,iV p] 263] (.tuple #[.agg #[iV 0,uV 0],bF,iV 0]) [Mr k a e 5 m o,B2 j a e i,Cl l [iV a,iV (d+1),iV p] 263]:=by
 refine AC func410 ntmps410 fun g w0 R h0=>g0<|nP 203 [iV 0,uV 0] h0 (fun _ _ z=> ?_)
 have A:=z.c.c.c.t5
 refine g0<|IM call443 (OH l j k a e m o i d p om om om) A fun _ s=>go [rd 4 3 2 1 1 s]<|nP 3 [iV 0] s (fun B _ C=> ?_)
 refine sA [iV d] C fun _ t=> ?_
 have D:=t.c.t6
 refine go [rd 5 3 3 1 1 t,.v 5 4 (CD (d+1))]<|sP [(1,iV (d+1))] [iV a,iV (d+1),iV p] D fun _ E=> ?_
 have F:=E.c.t6
 refine g0<|cP call266 (ZM j a e i) F ?_
 rintro v K _ (⟨G,H,rfl,rfl⟩) I
 refine cP call435 (Sm G a i H q) ((MG I).b.b.t8) ?_
 rintro v K _ (⟨J,L,rfl,rfl⟩) M
 have N:=MG M
 refine g0<|AP call444 (Sn J L B) N fun _ u=> ?_
 have O:=u.f.t9
 refine go [rd 8 1 5 0 1 u]<|AF call434 (H0 k a e m 5 o d om om) O fun _ P=> ?_
 have Q:=P.x.t9
 refine g0<|sA [iV 0,uV 0] Q fun _ y=>g0 ?_
 exact AD _ [rd 0 0 0 0 2 y] y.f.f.c.t9.h.c.c.c.t4
theorem OI(s m:Nat)(y:Int)(k b f:Nat)(p q:Int)(i:Nat)(t u:Int)(o:List AM)(j l:Int)(x:AJ 1 o 0= [])(_:0≤ -(b:Int)+9223372036854775808)(_:0≤j)(_:0≤ -j+(b:Int)-2):HQ 367 [pV s,pV m,iV y] [Mr k b f 5 p q,Cl s [pV k,pV i,iV b,iV f,iV t,iV u,bF] 158,B2 m b f o,Cl i [iV b,iV j,iV l] 263] (.tuple #[.agg #[iV 0,uV 0],bF,iV 0]) [Mr k b f 5 p q,Cl s [pV k,pV i,iV b,iV f,iV t,iV u,bF] 158,B2 m b f o,Cl i [iV b,iV (j+1),iV l] 263]:=by
 refine AC func367 ntmps367 fun g w0 R h0=>g0<|nP 203 [iV 0,uV 0] h0 (fun _ _ F=> ?_)
 refine g0<|dw (AE [0,1,2,3,4,5,6,7,8] (Tr.an2 9 (AE [10,11,12,13] (Tr.an 14 (Tr.an 15 (AE [16,17] Tr.nil)))) 14 (Tr.an 9 (AE [10,11,12,13] (Tr.an 15 (AE [16,17] Tr.nil)))))) F fun _ z=>go [rd 1 3 2 1 1 z,rd 1 8 2 0 1 z] ?_
 refine IN ?_ ?_
 ·
  refine L7 call410 (Eo i m k b f p q o j l x om om om om) z.d.d.c.t6 fun _ G=>⟨kd [],?_⟩
  refine g0<|nG (fun q_=>pV q_) 203 [iV 0,uV 0] G (fun _ _ H=>⟨kd [],?_⟩)
  refine sB [iV 0,uV 0] H fun _ B=>⟨kd [],?_⟩
  have I:=B.c.t7
  refine go [rd 2 6 5 1 1 B]<|AF call411 (Cv i b (j+1) l om om) I fun _ J=> ?_
  have L:=J.d.t7
  refine g0<|sA [iV 0,uV 0] L fun _ C=>g0 ?_
  exact AD _ [rd 0 0 0 0 2 C] C.a.d.e.e.t7.f.d.d.d.d.t5
 refine nG (fun q_=>pV q_) 203 [iV 0,uV 0] z (fun _ _ A=>⟨kd [rd 0 8 3 0 1 A,rd 0 3 3 1 1 A],?_⟩)
 refine L7 call410 (Eo i m k b f p q o j l x om om om om) A.e.e.d.t7 fun _ M=>⟨kd [],?_⟩
 have N:=M.c.t7
 refine g0<|sB [iV 0,uV 0] N fun _ D=>⟨kd [],?_⟩
 have O:=D.c.t7
 refine go [rd 2 6 5 1 1 D]<|AF call411 (Cv i b (j+1) l om om) O fun _ P=> ?_
 have Q:=P.d.t7
 refine g0<|sA [iV 0,uV 0] Q fun _ E=>g0 ?_
 exact AD _ [rd 0 0 0 0 2 E] E.a.d.e.e.t7.f.d.d.d.d.t5
theorem pY(b n m:Nat)(cy sn at_ nx bg:Int)(ar:Nat)(A:List AM)(rm:Int)(_:0≤nx)(_:0≤(n:Int)-nx-2)(_:0≤rm):HQ 213 [pV b,pV ar,iV rm] [Cy b n m 5 cy sn at_ nx bg,B2 ar n m A] (.tuple #[.agg #[iV 0,uV 0],bF,iV 0]) [Cy b n m 5 cy sn at_ (nx+1) bg,B2 ar n m A]:=by
 refine AC func213 ntmps213 fun g w0 R h0=> ?_
 have j:=h0.a.t3
 have q:=ZL j
 obtain⟨e,f,k,s,t,u,x,O,y⟩:=BT j.a.t3
 have z:sat g _ (Cl b [pV e,pV f,iV n,iV m,iV at_,iV bg,bF] 158::_):=y
 refine g0<|nP 203 [iV 0,uV 0] z (fun B _ C=> ?_)
 have D:=C.d.t6
 refine g0<|AF call289 (Hx ar n m A) D fun _ E=> ?_
 have F:=E.b.t6
 refine g0<|AF call114 (Ab b e f n m at_ bg) F fun _ i=>go [.v 2 5 (DR (n:Int) 0),rd 4 4 0 2 1 i,.v 4 5 (Db (n:Int) (n:Int)),rd 4 11 0 3 1 i,.v 4 12 (Db (m:Int) (m:Int)),.v 4 16 (oF (rm<0))]<|dw (AE [1,2,3,4,7,8,9] (Tr.an 0 (Tr.an 5 (Tr.fl 6 (Tr.an 10 (AE [11,12,13] (Tr.an 14 (AE [15,16] Tr.nil)))))))) i fun _ l=>go [rd 6 4 0 0 1 l]<|CJ call290 BI l fun _ o=>⟨kd [rd 0 4 0 0 1 o],?_⟩
 refine BZ call291 (CI e n m cy 5 sn) o.c.t6 fun _ G=>⟨kd [],?_⟩
 have H:=G.d.c.c.c.t6
 refine g0<|Rb call367 (OI b ar rm e n m cy sn f at_ bg A nx k q om om om) H fun _ I=>⟨kd [],?_⟩
 have J:=I.d.t6
 refine g0<|sB [iV 0,uV 0] J fun L p=>⟨kd [],?_⟩
 refine g0 ?_
 obtain⟨tl_,htl_⟩: ∃z_:Int,z_=k:=⟨_,rfl⟩
 have M:sat g L [Cl f [iV n,iV (nx+1),iV tl_] 263,Cl B [iV 0,uV 0] 203,Mr e n m 5 cy sn,Cl b [pV e,pV f,iV n,iV m,iV at_,iV bg,bF] 158,B2 ar n m A,R]:=by rw[htl_];exact p.d.t6
 have N:sat g _ (Cy b n m 5 cy sn at_ (nx+1) bg::_):=Az b n m 5 cy sn at_ (nx+1) bg e f tl_ s t u x om M.b.c.t6
 exact AD _ [rd 0 0 0 0 2 p] N.b.a.t4.c.b.b.t3
theorem JL(c a:Nat)(b d:Int)(_:0≤(a:Int)-1)(_:0≤b-(a:Int)+1)(_:0≤ -b+(a:Int)-1):HQ 411 [pV c] [Cl c [iV a,iV (b+1),iV d] 263] (bT) [Cl c [iV a,iV (b+1),iV d] 263]:=by
 refine AC func411 ntmps411 fun g w0 R h0=>g0<|dw (Tr.fl 0 (Tr.an 1 (AE [2,3,4,5,6,7,8,9,10,11,12,13] Tr.nil))) h0 fun _ f=>g0<|BZ call179 (Dm c a (b+1) d om) f fun _ e=>⟨kd [],?_⟩
 refine go [rd 1 6 0 1 1 e,rd 1 10 0 0 1 e,.v 1 11 (G9 (b+1) (a:Int))] ?_
 exact AD _ [] e
theorem OJ(s o:Nat)(y:Int)(j a f:Nat)(k p:Int)(l:Nat)(t u:Int)(q:List AM)(i m:Int)(x:AJ 1 q 0= [])(_:0≤ -i+9223372036854775806)(_:0≤(a:Int)-1)(_:0≤i-(a:Int)+1)(_:0≤ -i+(a:Int)-1)(_:0≤k)(_:0≤ -k+1000000):HQ 367 [pV s,pV o,iV y] [Mr j a f 5 k p,Cl s [pV j,pV l,iV a,iV f,iV t,iV u,bF] 158,B2 o a f q,Cl l [iV a,iV i,iV m] 263] (.tuple #[.agg #[iV 0,uV 0],bF,iV 0]) [Mr j a f 0 (k+1) 0,Cl s [pV j,pV l,iV a,iV f,iV t,iV u,bF] 158,B2 o a f q,Cl l [iV a,iV (i+1),iV m] 263]:=by
 refine AC func367 ntmps367 fun g w0 R h0=>g0<|nP 203 [iV 0,uV 0] h0 (fun _ _ H=> ?_)
 refine g0<|dw (AE [0,1,2,3,4,5,6,7,8] (Tr.an2 9 (AE [10,11,12,13] (Tr.an 14 (Tr.an 15 (AE [16,17] Tr.nil)))) 14 (Tr.an 9 (AE [10,11,12,13] (Tr.an 15 (AE [16,17] Tr.nil)))))) H fun _ z=>go [rd 1 3 2 1 1 z,rd 1 8 2 0 1 z] ?_
 refine IN ?_ ?_
 ·
  refine L7 call410 (Eo l o j a f k p q i m x om om om om) z.d.d.c.t6 fun _ I=>⟨kd [],?_⟩
  refine g0<|nG (fun q_=>pV q_) 203 [iV 0,uV 0] I (fun _ _ J=>⟨kd [],?_⟩)
  refine sB [iV 0,uV 0] J fun _ B=>⟨kd [],?_⟩
  have L:=B.c.t7
  refine go [rd 2 6 5 1 1 B]<|AF call411 (JL l a i m om om om) L fun _ C=> ?_
  have M:=C.b.t7
  refine go [rd 3 3 5 0 1 C]<|AF call408 (hC j a f k p om om) M fun _ N=> ?_
  have O:=N.d.t7
  refine g0<|sA [iV 0,uV 0] O fun _ D=>g0 ?_
  exact AD _ [rd 0 0 0 0 2 D] D.b.d.e.d.t7.f.d.d.d.d.t5
 refine nG (fun q_=>pV q_) 203 [iV 0,uV 0] z (fun _ _ A=>⟨kd [rd 0 8 3 0 1 A,rd 0 3 3 1 1 A],?_⟩)
 refine L7 call410 (Eo l o j a f k p q i m x om om om om) A.e.e.d.t7 fun _ P=>⟨kd [],?_⟩
 have Q:=P.c.t7
 refine g0<|sB [iV 0,uV 0] Q fun _ E=>⟨kd [],?_⟩
 have S:=E.c.t7
 refine go [rd 2 6 5 1 1 E]<|AF call411 (JL l a i m om om om) S fun _ F=> ?_
 have T:=F.b.t7
 refine go [rd 3 3 5 0 1 F]<|AF call408 (hC j a f k p om om) T fun _ U=> ?_
 have V:=U.d.t7
 refine g0<|sA [iV 0,uV 0] V fun _ G=>g0 ?_
 exact AD _ [rd 0 0 0 0 2 G] G.b.d.e.d.t7.f.d.d.d.d.t5
theorem iH(b n m:Nat)(cy sn at_ nx bg:Int)(ar:Nat)(A:List AM)(rm:Int)(_:0≤nx)(_:0≤nx-(n:Int)+1)(_:0≤(n:Int)-nx-1)(_:0≤cy)(_:0≤ -cy+1000000)(_:0≤rm):HQ 213 [pV b,pV ar,iV rm] [Cy b n m 5 cy sn at_ nx bg,B2 ar n m A] (.tuple #[.agg #[iV 0,uV 0],bF,iV 0]) [Cy b n m 0 (cy+1) 0 at_ (nx+1) bg,B2 ar n m A]:=by
 refine AC func213 ntmps213 fun g w0 R h0=> ?_
 have j:=h0.a.t3
 have q:=ZL j
 obtain⟨e,f,k,s,t,u,x,O,y⟩:=BT j.a.t3
 have z:sat g _ (Cl b [pV e,pV f,iV n,iV m,iV at_,iV bg,bF] 158::_):=y
 refine g0<|nP 203 [iV 0,uV 0] z (fun B _ C=> ?_)
 have D:=C.d.t6
 refine g0<|AF call289 (Hx ar n m A) D fun _ E=> ?_
 have F:=E.b.t6
 refine g0<|AF call114 (Ab b e f n m at_ bg) F fun _ i=>go [.v 2 5 (DR (n:Int) 0),rd 4 4 0 2 1 i,.v 4 5 (Db (n:Int) (n:Int)),rd 4 11 0 3 1 i,.v 4 12 (Db (m:Int) (m:Int)),.v 4 16 (oF (rm<0))]<|dw (AE [1,2,3,4,7,8,9] (Tr.an 0 (Tr.an 5 (Tr.fl 6 (Tr.an 10 (AE [11,12,13] (Tr.an 14 (AE [15,16] Tr.nil)))))))) i fun _ l=>go [rd 6 4 0 0 1 l]<|CJ call290 BI l fun _ o=>⟨kd [rd 0 4 0 0 1 o],?_⟩
 refine BZ call291 (CI e n m cy 5 sn) o.c.t6 fun _ G=>⟨kd [],?_⟩
 have H:=G.d.c.c.c.t6
 refine g0<|Rb call367 (OJ b ar rm e n m cy sn f at_ bg A nx k q om om om om om om) H fun _ I=>⟨kd [],?_⟩
 have J:=I.d.t6
 refine g0<|sB [iV 0,uV 0] J fun L p=>⟨kd [],?_⟩
 refine g0 ?_
 obtain⟨tl_,htl_⟩: ∃z_:Int,z_=k:=⟨_,rfl⟩
 have M:sat g L [Cl f [iV n,iV (nx+1),iV tl_] 263,Cl B [iV 0,uV 0] 203,Mr e n m 0 (cy+1) 0,Cl b [pV e,pV f,iV n,iV m,iV at_,iV bg,bF] 158,B2 ar n m A,R]:=by rw[htl_];exact p.d.t6
 have N:sat g _ (Cy b n m 0 (cy+1) 0 at_ (nx+1) bg::_):=Az b n m 0 (cy+1) 0 at_ (nx+1) bg e f tl_ s t u x om M.b.c.t6
 exact AD _ [rd 0 0 0 0 2 p] N.b.a.t4.c.b.b.t3
def Za(n p:Nat):Int:=if p=0 then 1 else if p=1 then 2 else if p=2 then 3 else if p<3+n then 4 else if p<3+2*n then 5 else 0
def lB(p j:Nat):Int:=if p≤1 then (j:Int) else 0
def lC(n p:Nat)(ec:Int):Int:=if p<3+2*n then ec else ec+1
def iI(n p:Nat)(a x:Int):Prop:=(3≤p→p<3+n→a=(p:Int)-3)∧(3+n≤p→p<3+2*n→x=(p:Int)-3-n)
def C8(c n m:Nat)(ec bg:Int)(p j:Nat):AB:=fun h=> ∃x:Int×Int,iI n p x.1 x.2∧Cy c n m (Za n p) (lC n p ec) (lB p j) x.1 x.2 bg h
def Cw(ar n m:Nat)(A:List AM)(s:Nat)(gn:Int)(p:Nat):AB:=if p≤3+n+s then BY ar n m A s gn else B2 ar n m (Ak A s gn)
def Dr(n m p j:Nat):Nat:=if p≤1 then (if j=m then p+1 else p) else if p<3+2*n then p+1 else p
def Fy(m p j:Nat):Nat:=if p≤1∧j≠m then j else 0
def RZ(n m p j:Nat):Prop:=(p=0→j=m)∧(p=1→j=m∨j=0)∧p≤3+2*n
def H1(p:Nat):Int:=if p≤1 then 0 else 8
theorem Zb{f:Nat}{args:List Value}{c ar n m:Nat}{A:List AM}{s:Nat}{gn ec bg:Int}{p j p' j':Nat}{V:Value}(h: ∀at_ nx:Int,iI n p at_ nx→ ∃(B B':AB) (ph cy sn ph' cy' sn' at' nx':Int),
  (Za n p=ph∧lC n p ec=cy∧lB p j=sn∧Cw ar n m A s gn p=B)∧(Za n p'=ph'∧lC n p' ec=cy'∧lB p' j'=sn'∧Cw ar n m A s gn p'=B'∧iI n p' at' nx')∧
  HT prog f args [Cy c n m ph cy sn at_ nx bg,B] (fun v K=>v=V∧K= [Cy c n m ph' cy' sn' at' nx' bg,B'])):
  HT prog f args [C8 c n m ec bg p j,Cw ar n m A s gn p] (fun v K=>v=V∧K= [C8 c n m ec bg p' j',Cw ar n m A s gn p']):=by
 intro g w F hs
 obtain⟨x,hx,a⟩:=Af (X:=Int×Int) (p:=fun x=>iI n p x.1 x.2) (B:=fun x=>Cy c n m (Za n p) (lC n p ec) (lB p j) x.1 x.2 bg) hs (fun _ hk=>hk)
 obtain⟨B,B',ph,cy,sn,ph',cy',sn',at',nx',⟨e1,e2,e3,e4⟩,⟨f1,f2,f3,f4,f5⟩,ht⟩:=h x.1 x.2 hx
 rw[e1,e2,e3,e4] at a
 refine(HT.post ht ?_) g w F a
 rintro v K ⟨rfl,rfl⟩
 refine⟨_,⟨rfl,rfl⟩,fun g w F h2=> ?_⟩
 rw[f4]
 exact AI h2 fun _ hk=>⟨(at',nx'),f5,by rw[f1,f2,f3];exact hk⟩
theorem gI{P:Prop}(h:P:=by first|(unfold Za;(repeat' split)<;>omega)|(unfold lC;(repeat' split)<;>omega)|(unfold lB;(repeat' split)<;>omega)):P:=h
theorem gC{P:Prop}(h:P:=by unfold iI at*;omega):P:=h
theorem FJ(c ar n m:Nat)(A:List AM)(s:Nat)(gn ec bg:Int)(p j:Nat)(rm:Int)(_:0≤(p:Int)-3-s)(_:0≤3+(s:Int)-p)(_:0≤rm-1)(_:0≤(n:Int)-1-s):
  HT prog 213 [pV c,pV ar,iV rm] [C8 c n m ec bg p j,Cw ar n m A s gn p] (fun v K=>v= .tuple #[.agg #[iV s,uV gn],bT,iV 0]∧K= [C8 c n m ec bg (Dr n m p j) (Fy m p j),Cw ar n m A s gn (Dr n m p j)]):=by
 rw[show Dr n m p j=p+1 from by unfold Dr;rw[if_neg om,if_pos om],show Fy m p j=0 from by unfold Fy;rw[if_neg om]]
 refine Zb fun at_ nx hx=> ?_
 have ha:at_=(s:Int):=by unfold iI at hx;omega
 subst ha
 by_cases hl:s+2≤n
 · exact⟨_,_,_,_,_,_,_,_,_,_,⟨gI,gI,gI,if_pos om⟩,⟨gI,gI,gI,if_pos om,gC⟩,pU c n m ec 0 nx bg ar A s gn rm om om⟩
 · exact⟨_,_,_,_,_,_,_,_,_,_,⟨gI,gI,gI,if_pos om⟩,⟨gI,gI,gI,if_pos om,gC⟩,iE c n m ec 0 nx bg ar A s gn rm om om⟩
theorem DZ(c ar n m:Nat)(A:List AM)(s:Nat)(gn ec bg:Int)(p j:Nat)(rm:Int)(hG:RZ n m p j)(_:0≤rm)(_:0≤(n:Int)-1-s)(_:0≤ec)(_:0≤1000000-ec)(_:0≤(m:Int)-1)(b:(p:Int)-3-s≠0):
  HT prog 213 [pV c,pV ar,iV rm] [C8 c n m ec bg p j,Cw ar n m A s gn p] (fun v K=>v= .tuple #[.agg #[iV 0,uV 0],bF,iV 0]∧K= [C8 c n m ec bg (Dr n m p j) (Fy m p j),Cw ar n m A s gn (Dr n m p j)]):=by
 obtain⟨hG0,hG1,hG2⟩:=hG
 refine Zb fun at_ nx hx=> ?_
 by_cases a:p=0
 · obtain rfl:=hG0 a
   subst a
   rw[show Dr n j 0 j=1 from by simp[Dr],show Fy j 0 j=0 from by simp[Fy]]
   exact⟨_,_,_,_,_,_,_,_,_,_,⟨gI,gI,gI,if_pos om⟩,⟨gI,gI,gI,if_pos om,gC⟩,uU c n j ec at_ nx bg ar A s gn rm om⟩
 by_cases h1:p=1
 · subst h1
   rcases hG1 rfl with rfl |rfl
   · rw[show Dr n j 1 j=2 from by simp[Dr],show Fy j 1 j=0 from by simp[Fy]]
     exact⟨_,_,_,_,_,_,_,_,_,_,⟨gI,gI,gI,if_pos om⟩,⟨gI,gI,gI,if_pos om,gC⟩,uW c n j ec at_ nx bg ar A s gn rm om⟩
   · rw[show Dr n m 1 0=1 from by unfold Dr;rw[if_pos om,if_neg om],show Fy m 1 0=0 from by unfold Fy;split<;>rfl]
     exact⟨_,_,_,_,_,_,_,_,_,_,⟨gI,gI,gI,if_pos om⟩,⟨gI,gI,gI,if_pos om,gC⟩,pT c n m ec at_ nx bg ar A s gn rm om⟩
 have ej:Fy m p j=0:=by unfold Fy;rw[if_neg om]
 rw[ej]
 by_cases h9:p=3+2*n
 · rw[show Dr n m p j=p from by unfold Dr;rw[if_neg om,if_neg om]]
   exact⟨_,_,_,_,_,_,_,_,_,_,⟨gI,gI,gI,if_neg om⟩,⟨gI,gI,gI,if_neg om,gC⟩,uT c n m (ec+1) 0 at_ nx bg ar _ rm om⟩
 rw[show Dr n m p j=p+1 from by unfold Dr;rw[if_neg om,if_pos om]]
 by_cases h2:p=2
 · subst h2
   exact⟨_,_,_,_,_,_,_,_,_,_,⟨gI,gI,gI,if_pos om⟩,⟨gI,gI,gI,if_pos om,gC⟩,uX c n m ec 0 at_ nx bg ar A s gn rm om⟩
 by_cases h3:p<3+n
 · have ha:at_=(p:Int)-3:=by unfold iI at hx;omega
   by_cases hl:p+1<3+n
   · exact⟨_,_,_,_,_,_,_,_,_,_,⟨gI,gI,gI,if_pos om⟩,⟨gI,gI,gI,if_pos om,gC⟩,uY c n m ec 0 at_ nx bg ar A s gn rm om om om om⟩
   · exact⟨_,_,_,_,_,_,_,_,_,_,⟨gI,gI,gI,if_pos om⟩,⟨gI,gI,gI,if_pos om,gC⟩,pW c n m ec 0 at_ nx bg ar A s gn rm om om om om om⟩
 have ha:nx=(p:Int)-3-n:=by unfold iI at hx;omega
 by_cases h4:p<3+n+s
 · exact⟨_,_,_,_,_,_,_,_,_,_,⟨gI,gI,gI,if_pos om⟩,⟨gI,gI,gI,if_pos om,gC⟩,uZ c n m ec 0 at_ nx bg ar A s gn rm om om om om⟩
 by_cases h5:p=3+n+s
 · have hs:nx=(s:Int):=by omega
   subst hs
   by_cases hl:s+2≤n
   · exact⟨_,_,_,_,_,_,_,_,_,_,⟨gI,gI,gI,if_pos om⟩,⟨gI,gI,gI,if_neg om,gC⟩,pX c n m ec 0 at_ bg ar A s gn rm om om⟩
   · exact⟨_,_,_,_,_,_,_,_,_,_,⟨gI,gI,gI,if_pos om⟩,⟨gI,gI,gI,if_neg om,gC⟩,iF c n m ec 0 at_ bg ar A s gn rm om om om om⟩
 by_cases hl:p+1<3+2*n
 · exact⟨_,_,_,_,_,_,_,_,_,_,⟨gI,gI,gI,if_neg om⟩,⟨gI,gI,gI,if_neg om,gC⟩,pY c n m ec 0 at_ nx bg ar _ rm om om om⟩
 · exact⟨_,_,_,_,_,_,_,_,_,_,⟨gI,gI,gI,if_neg om⟩,⟨gI,gI,gI,if_neg om,gC⟩,iH c n m ec 0 at_ nx bg ar _ rm om om om om om om⟩
theorem pZ(c ar n m:Nat)(A:List AM)(s:Nat)(gn ec bg:Int)(p j:Nat)(_:0≤(m:Int)-1-j)(_:0≤3+2*(n:Int)-p)(_:0≤(n:Int)-1-s):
  HT prog 197 [pV c,pV ar,iV j] [C8 c n m ec bg p j,Cw ar n m A s gn p] (fun v K=>v= .tuple #[.bool (decide (p≤1)),iV (H1 p)]∧K= [C8 c n m ec bg p (j+1),Cw ar n m A s gn p]):=by
 refine Zb fun at_ nx hx=> ?_
 by_cases h0:p=0
 · subst h0
   exact⟨_,_,_,_,_,_,_,_,_,_,⟨gI,gI,gI,if_pos om⟩,⟨gI,gI,gI,if_pos om,gC⟩,pR c n m ec at_ nx bg ar A s gn j om⟩
 by_cases h1:p=1
 · subst h1
   exact⟨_,_,_,_,_,_,_,_,_,_,⟨gI,gI,gI,if_pos om⟩,⟨gI,gI,gI,if_pos om,gC⟩,pS c n m ec at_ nx bg ar A s gn j om⟩
 rw[decide_eq_false (show ¬p≤1 by omega),show H1 p=8 from if_neg om]
 by_cases h9:p=3+2*n
 · exact⟨_,_,_,_,_,_,_,_,_,_,⟨gI,gI,gI,if_neg om⟩,⟨gI,gI,gI,if_neg om,hx⟩,iC c n m (ec+1) 0 at_ nx bg ar _ j om⟩
 have hp:0≤Za n p-3:=gI
 by_cases h4:p≤3+n+s
 · exact⟨_,_,_,_,_,_,_,_,_,_,⟨rfl,gI,gI,if_pos om⟩,⟨rfl,gI,gI,if_pos om,hx⟩,iD c n m (Za n p) ec 0 at_ nx bg ar A s gn j hp om⟩
 · exact⟨_,_,_,_,_,_,_,_,_,_,⟨rfl,gI,gI,if_neg om⟩,⟨rfl,gI,gI,if_neg om,hx⟩,iB c n m (Za n p) ec 0 at_ nx bg ar _ j hp om⟩
theorem Zc{n m p j:Nat}(hm:1≤m)(h:RZ n m p j):RZ n m (Dr n m p j) (Fy m p j):=by
 unfold RZ at*
 unfold Dr Fy
 (repeat' split)<;>omega
def mv(n m:Nat):Nat→Nat×Nat→Nat×Nat
 |0,x=>x
 |i+1,x=>(Dr n m (mv n m i x).1 (mv n m i x).2,Fy m (mv n m i x).1 (mv n m i x).2)
theorem Ua{n m p j:Nat}(hm:1≤m)(h:RZ n m p j): ∀i,RZ n m (mv n m i (p,j)).1 (mv n m i (p,j)).2
 |0=>h
 |i+1=>Zc hm (Ua hm h i)
theorem QV{n m:Nat}(hm:1≤m): ∀i,mv n m (i+1) (0,m)=(1,0)
 |0=>by simp[mv,Dr,Fy]
 |i+1=>by
  have h:=QV (n:=n) hm i
  show (Dr n m (mv n m (i+1) (0,m)).1 (mv n m (i+1) (0,m)).2,Fy m (mv n m (i+1) (0,m)).1 (mv n m (i+1) (0,m)).2)=_
  rw[h]
  unfold Dr Fy
  rw[if_pos om,if_neg om]
  have:(0:Nat)≠m:=by omega
  simp[this]
theorem Ub{n m p:Nat}(hn:1≤n)(hp:1≤p)(a:p≤3+2*n): ∀i,mv n m (i+1) (p,m)=(min (p+(i+1)) (3+2*n),0)
 |0=>by
  show (Dr n m p m,Fy m p m)=_
  refine Prod.ext ?_ ?_
  · show Dr n m p m=min (p+(0+1)) (3+2*n)
    unfold Dr
    (repeat' split)<;>omega
  · show Fy m p m=0
    unfold Fy
    (repeat' split)<;>omega
 |i+1=>by
  have h:=Ub (m:=m) hn hp a i
  show (Dr n m (mv n m (i+1) (p,m)).1 (mv n m (i+1) (p,m)).2,Fy m (mv n m (i+1) (p,m)).1 (mv n m (i+1) (p,m)).2)=_
  rw[h]
  refine Prod.ext ?_ ?_
  · show Dr n m (min (p+(i+1)) (3+2*n)) 0=min (p+(i+1+1)) (3+2*n)
    unfold Dr
    (repeat' split)<;>omega
  · show Fy m (min (p+(i+1)) (3+2*n)) 0=0
    unfold Fy
    (repeat' split)<;>omega
theorem Zd{g w:World}{F:List AB}{c ar n m:Nat}{A:List AM}{s:Nat}{gn ec at_ nx bg:Int}(hn:1≤n)(h:sat g w (Cy c n m 1 ec 0 at_ nx bg::BY ar n m A s gn::F)):sat g w (C8 c n m ec bg 0 0::Cw ar n m A s gn 0::F):=by
 rw[show Cw ar n m A s gn 0=BY ar n m A s gn from if_pos om]
 exact AI h fun _ hk=>⟨(at_,nx),gC,by rw[show Za n 0=1 from rfl,show lC n 0 ec=ec from if_pos om,show lB 0 0=0 from rfl];exact hk⟩
theorem So{g w:World}{F:List AB}{c ar n m:Nat}{A:List AM}{s:Nat}{gn ec bg:Int}{p j:Nat}(hp:p=3+2*n)(hs:s<n)(h:sat g w (C8 c n m ec bg p j::Cw ar n m A s gn p::F)): ∃at_ nx:Int,sat g w (Cy c n m 0 (ec+1) 0 at_ nx bg::B2 ar n m (Ak A s gn)::F):=by
 rw[show Cw ar n m A s gn p=B2 ar n m (Ak A s gn) from if_neg om] at h
 obtain⟨x,hx,a⟩:=Af (X:=Int×Int) (p:=fun x=>iI n p x.1 x.2) (B:=fun x=>Cy c n m (Za n p) (lC n p ec) (lB p j) x.1 x.2 bg) h (fun _ hk=>hk)
 rw[show Za n p=0 from gI,show lC n p ec=ec+1 from gI,show lB p j=0 from gI] at a
 exact⟨x.1,x.2,a⟩
section
open Go.Sort
def Fm(a b:Int):Int:=if a<b then -1 else if b<a then 1 else 0
def H2(S:Ts)(n:Int):Int:=(AZ S n).nx
def Gu(S:Ts)(a b:Int):Prop:=H2 S a<H2 S b∨(H2 S a=H2 S b∧a<b)
instance (S:Ts) (a b:Int):Decidable (Gu S a b):=by unfold Gu;infer_instance
def lD(S:Ts)(a b:Int):Int:=if Fm (H2 S a) (H2 S b)≠0 then Fm (H2 S a) (H2 S b) else Fm a b
theorem qA{S:Ts}{a b:Int}:lD S a b<0↔Gu S a b:=by
 unfold lD Gu Fm
 split<;>split<;>(try split)<;>(try split)<;>omega
theorem xV(S:Ts)(a b:Int):ltOf (lD S) a b=decide (Gu S a b):=by
 unfold ltOf
 rw[decide_eq_decide]
 exact qA
theorem zE(S:Ts):SWO (ltOf (lD S)) where
 irrefl x:=by rw[xV];exact decide_eq_false (fun h=>by unfold Gu at h;omega)
 trans x y z h1 h2:=by
  rw[xV] at*
  have h3:=of_decide_eq_true h1
  have h4:=of_decide_eq_true h2
  refine decide_eq_true ?_
  unfold Gu at*
  omega
 ntrans x y z h1 h2:=by
  rw[xV] at*
  have h3:=of_decide_eq_false h1
  have h4:=of_decide_eq_false h2
  refine decide_eq_false ?_
  unfold Gu at*
  omega
def WK(S:Ts)(n:Int):List Int→List Int
 | []=> [n]
 |a::l=>if Gu S a n then a::WK S n l else n::a::l
def WL(S:Ts):List Int→List Int
 | []=> []
 |a::l=>WK S a (WL S l)
def Bv(S:Ts):List Int:=WL S (AT S.R 2)
theorem In(S:Ts)(n:Int): ∀l,(WK S n l).Perm (n::l)
 | []=>List.Perm.refl _
 |a::l=>by
  unfold WK
  split
  · exact((In S n l).cons a).trans (List.Perm.swap n a l)
  · exact List.Perm.refl _
theorem Mo(S:Ts): ∀l,(WL S l).Perm l
 | []=>List.Perm.refl _
 |a::l=>(In S a _).trans ((Mo S l).cons a)
theorem Uc{S:Ts}{n:Int}: ∀ {l:List Int},l.Pairwise (fun a b=> ¬Gu S b a)→(WK S n l).Pairwise fun a b=> ¬Gu S b a
 | [],_=>List.pairwise_singleton _ _
 |a::l,h=>by
  rw[List.pairwise_cons] at h
  unfold WK
  split
  · rename_i hb
    rw[List.pairwise_cons]
    refine⟨fun x hx=> ?_,Uc h.2⟩
    rcases List.mem_cons.1 ((In S n l).mem_iff.1 hx) with rfl |hx
    · unfold Gu at hb ⊢;omega
    · exact h.1 x hx
  · rename_i hb
    rw[List.pairwise_cons]
    refine⟨fun x hx=> ?_,List.pairwise_cons.2 h⟩
    rcases List.mem_cons.1 hx with rfl |hx
    · exact hb
    · have h1:=h.1 x hx
      unfold Gu at hb h1 ⊢
      omega
theorem Ud(S:Ts): ∀l,(WL S l).Pairwise fun a b=> ¬Gu S b a
 | []=>List.Pairwise.nil
 |_::l=>Uc (Ud S l)
theorem Io(S:Ts):(Bv S).Perm (AT S.R 2):=Mo S _
theorem H3(S:Ts):(Bv S).length=(AT S.R 2).length:=(Io S).length_eq
theorem WM{S:Ts}{M:List Int}(h1:M.Perm (AT S.R 2))(h2:M.Pairwise fun a b=>ltOf (lD S) b a=false):M=Bv S:=by
 refine List.Perm.eq_of_pairwise (le:=fun a b=> ¬Gu S b a) ?_ (h2.imp fun h=> ?_) (Ud S _) (h1.trans (Io S).symm)
 · intro a b _ _ h3 h4
   unfold Gu at h3 h4
   omega
 · rw[xV] at h
   exact of_decide_eq_false h
theorem Ze{R:List Rs}{st n:Int}:n∈AT R st↔ ∃(i:Nat) (r:Rs),R[i]? =some r∧r.st=st∧n=(i:Int)+1:=by
 unfold AT Ci
 simp only[List.mem_map,List.mem_filter,List.mem_range,Option.any_eq_true,beq_iff_eq]
 constructor
 · rintro⟨i,⟨_,r,a,b⟩,rfl⟩
   exact⟨i,r,a,b,rfl⟩
 · rintro⟨i,r,a,b,rfl⟩
   exact⟨i,⟨(List.getElem?_eq_some_iff.1 a).1,r,a,b⟩,rfl⟩
theorem WN{S:Ts}{i:Nat}{r:Rs}(h:S.R[i]? =some r):AZ S ((i:Int)+1)=r:=by
 unfold AZ
 rw[if_pos om,show ((i:Int)+1-1).toNat=i by omega,h]
 rfl
theorem mem_srt{S:Ts}{n:Int}:n∈Bv S↔nE S n=0∧(AZ S n).st=2:=by
 rw[(Io S).mem_iff,Ze]
 constructor
 · rintro⟨i,r,a,b,rfl⟩
   rw[WN a]
   refine⟨if_pos ?_,b⟩
   have:=(List.getElem?_eq_some_iff.1 a).1
   omega
 · rintro⟨a,b⟩
   unfold nE at a
   split at a
   · rename_i h3
     refine⟨(n-1).toNat,AZ S n,?_,b,by omega⟩
     exact Gc h3
   · omega
def Bo(S:Ts)(now most:Int):List Int:=((Bv S).takeWhile fun n=>decide (H2 S n≤now)).take most.toNat
theorem Ue{α:Type}{p:α→Bool}: ∀ {L:List α} {i:Nat},(∀(j:Nat) (x:α),j<i→L[j]? =some x→p x=true)→i≤L.length→(∀x,L[i]? =some x→p x=false)→L.takeWhile p=L.take i
 | [],_,_,_,_=>by simp
 |a::L,0,_,_,h=>by simp[h a rfl]
 |a::L,i+1,h1,h2,h3=>by
  have h4:=Ue (L:=L) (i:=i) (p:=p) (fun j x hj hx=>h1 (j+1) x om (by rwa [List.getElem?_cons_succ])) (by simpa using h2) (fun x hx=>h3 x (by rwa [List.getElem?_cons_succ]))
  rw[List.takeWhile_cons,if_pos (h1 0 a om rfl),List.take_succ_cons,h4]
theorem Uf{α:Type}{p:α→Bool}: ∀ {L:List α} {i:Nat},(∀(j:Nat) (x:α),j<i→L[j]? =some x→p x=true)→i≤L.length→(L.takeWhile p).take i=L.take i
 | [],_,_,_=>by simp
 |a::L,0,_,_=>by simp
 |a::L,i+1,h1,h2=>by
  have h4:=Uf (L:=L) (i:=i) (p:=p) (fun j x hj hx=>h1 (j+1) x om (by rwa [List.getElem?_cons_succ])) (by simpa using h2)
  rw[List.takeWhile_cons,if_pos (h1 0 a om rfl),List.take_succ_cons,List.take_succ_cons,h4]
theorem Ko{S:Ts}{now most:Int}{i:Nat}(h1: ∀(j:Nat) (n:Int),j<i→(Bv S)[j]? =some n→H2 S n≤now)(b:i≤(Bv S).length)(hm:(i:Int)≤most)(a:(∀n,(Bv S)[i]? =some n→now<H2 S n)∨(i:Int)=most):Bo S now most=(Bv S).take i:=by
 have h1': ∀(j:Nat) (n:Int),j<i→(Bv S)[j]? =some n→decide (H2 S n≤now)=true:=fun j n hj hn=>decide_eq_true (h1 j n hj hn)
 unfold Bo
 rcases a with a|a
 · rw[Ue h1' b (fun x hx=>decide_eq_false (by have:=a x hx;omega)),List.take_take,Nat.min_eq_right om]
 · rw[show most.toNat=i by omega]
   exact Uf h1' b
theorem OK(R:List Rs)(st:Int):(AT R st).length≤R.length:=by
 unfold AT Ci
 rw[List.length_map]
 exact Nat.le_trans (List.length_filter_le _ _) (by rw[List.length_range];exact Nat.le_refl _)
theorem qB(S:Ts)(now most:Int):(Bo S now most).length≤(Bv S).length:=by
 unfold Bo
 exact Nat.le_trans (List.take_sublist _ _).length_le (List.takeWhile_sublist _).length_le
def O7(base cap:Int):Nat→Int
 |0=>base
 |k+1=>min (2*O7 base cap k) cap
def BP(tries base cap:Int):Int:=O7 base cap (tries-1).toNat
theorem Zf{base cap:Int}(h:1≤base∧base≤cap): ∀k,1≤O7 base cap k∧O7 base cap k≤cap
 |0=>⟨h.1,h.2⟩
 |k+1=>by
  have:=Zf h k
  unfold O7
  omega
def lE(base cap:Int):Int:=if base<1∨cap<base∨1048576<cap then 2 else 0
def Gw(r:Rs)(a now wt:Int):Int:=if a=2∧(1099511627776-wt<now∨10000≤r.tr) then 17 else 0
def Ip(r:Rs)(a now wt:Int):Rs:=if a=1 then {r with st:=3,nx:=0} else if a=3 then {r with st:=4,nx:=0} else {r with tr:=r.tr+1,nx:=now+wt}
structure Cf where
 bt:Int
 ba:Int
 cp:Int
def AR(r:Rs)(a now wt:Int):Rs:=if Gw r a now wt=0 then Ip r a now wt else xT
theorem Zg(r:Rs)(a now wt:Int):(Ip r a now wt).out=r.out:=by
 unfold Ip
 split
 · rfl
 · split<;>rfl
theorem Zh(r:Rs)(a now wt:Int):(Ip r a now wt).tag=r.tag:=by
 unfold Ip
 split
 · rfl
 · split<;>rfl
theorem iJ{r:Rs}{a now wt:Int}(h:Gw r a now wt=0):AR r a now wt=Ip r a now wt∧(AR r a now wt).out.2.2=r.out.2.2∧(AR r a now wt).tag=r.tag:=by
 have h1:AR r a now wt=Ip r a now wt:=if_pos h
 rw[h1,Zg,Zh]
 exact⟨rfl,rfl,rfl⟩
theorem GN{L:List UInt8}(h:Ag L=0):L.length≤96:=by
 unfold Ag at h
 split at h
 · omega
 · omega
theorem Kp{r:Rs}(h:FZ r=0):CH r.out.1 r.out.2.1 r.out.2.2 r.st r.why r.tr r.nx∧Ag r.tag=0:=by
 unfold FZ DH at h
 split at h
 · exact⟨‹_›,h⟩
 · omega
theorem Ug{r:Rs}(h:FZ r=0):r.tag.length≤96:=GN (Kp h).2
theorem Zi{n:Nat}{S:Ts}{v:Int}(W:Wf n S)(h:nE S v=0):FZ (AZ S v)=0∧0≤(AZ S v).out.2.2∧(AZ S v).out.2.2≤4294967295∧(AZ S v).tag.length≤96:=by
 unfold nE at h
 split at h
 · rename_i h3
   have hm:=List.mem_of_getElem? (Gc h3)
   have a:=W.res _ hm
   have h2:=(Kp a).1
   unfold CH at h2
   exact⟨a,by omega,W.og _ hm,Ug a⟩
 · omega
theorem QW{α:Type}{L:List α}{i:Nat}{x:α}(h:L[i]? =some x):L.take i++ [x]=L.take (i+1):=by
 rw[List.take_add_one,h]
 rfl
theorem Zj{α:Type}{L:List α}{d:α}{i:Nat}(h:i<L.length):L.take i++ [L.getD i d]=L.take (i+1):=by
 have h1:L[i]? =some (L.getD i d):=by rw[List.getD_eq_getElem?_getD,List.getElem?_eq_getElem h];rfl
 exact QW h1
abbrev Pw:=Ts×Wst
def QX(c:Cf)(r:Rs):Int:=BP (min (r.tr+1) 64) c.ba c.cp
def iK(c:Cf)(now:Int)(X:Pw)(n:Int):Pw:=
 (if Gw (AZ X.1 n) (D3 X.2 (AZ X.1 n).out (AZ X.1 n).why) now (QX c (AZ X.1 n))=0 then Cc X.1 n (Ip (AZ X.1 n) (D3 X.2 (AZ X.1 n).out (AZ X.1 n).why) now (QX c (AZ X.1 n))) else X.1,C7 X.2 (AZ X.1 n).out (AZ X.1 n).why)
def Sq(now:Int)(X:Pw)(n:Int):At:=⟨now,(AZ X.1 n).out,(AZ X.1 n).why,D3 X.2 (AZ X.1 n).out (AZ X.1 n).why⟩
def EX(c:Cf)(now:Int)(X:Pw)(l:List Int):Pw:=l.foldl (iK c now) X
def EG(c:Cf)(now:Int)(X:Pw)(l:List Int)(i:Nat):Pw:=EX c now X (l.take i)
def D4(c:Cf)(now:Int)(X:Pw)(l:List Int):List At:=(List.range l.length).map fun i=>Sq now (EG c now X l i) (l.getD i 0)
theorem QY(c:Cf)(now:Int)(X:Pw)(l:List Int):EG c now X l 0=X:=rfl
theorem QZ{c:Cf}{now:Int}{X:Pw}{l:List Int}{i:Nat}{n:Int}(h:l[i]? =some n):EG c now X l (i+1)=iK c now (EG c now X l i) n:=by
 unfold EG EX
 rw[List.take_add_one,h,List.foldl_append]
 rfl
theorem iL(c:Cf)(now:Int)(X:Pw)(l:List Int):EG c now X l l.length=EX c now X l:=by
 unfold EG
 rw[List.take_length]
theorem Zk{c:Cf}{now:Int}{X:Pw}{l:List Int}{i:Nat}{n:Int}(h:l[i]? =some n):(D4 c now X l)[i]? =some (Sq now (EG c now X l i) n):=by
 have hl:=(List.getElem?_eq_some_iff.1 h).1
 unfold D4
 rw[List.getElem?_map,List.getElem?_range hl]
 show some (Sq now (EG c now X l i) (l.getD i 0))=_
 rw[List.getD_eq_getElem?_getD,h]
 rfl
theorem iM(c:Cf)(now:Int)(X:Pw)(l:List Int):(D4 c now X l).length=l.length:=by
 unfold D4
 rw[List.length_map,List.length_range]
def Dn:At:=⟨0,(0,0,0),0,0⟩
abbrev qC(a:At):Value:= .agg #[.int .i64 a.at_,.int .i64 a.out.1,.int .i64 a.out.2.1,.int .u32 a.out.2.2,.int .i64 a.why,.int .i64 a.ans]
theorem iN{S:Wst}{o:Ky}{y:Int}(hW:WOk S)(h:DQ S o y=0):1≤D3 S o y∧D3 S o y≤3:=by
 unfold D3
 rw[if_pos h]
 exact KS hW.qb
def FK(c:Cf)(now:Int)(X:Pw)(l:List Int):Prop:= ∀(i:Nat) (n:Int),l[i]? =some n→
 nE (EG c now X l i).1 n=0∧(AZ (EG c now X l i).1 n).st=2∧DQ (EG c now X l i).2 (AZ (EG c now X l i).1 n).out (AZ (EG c now X l i).1 n).why=0
theorem iO(S:Wst)(o:Ky)(y:Int):(C7 S o y).now=S.now:=by
 unfold C7 Wst.put
 split
 · rfl
 · split
   · split
     · rfl
     · split<;>rfl
   · rfl
theorem iP{c:Cf}{now:Int}{l:List Int}: ∀ {X:Pw} {i:Nat},(EG c now X l i).2.now=X.2.now:=by
 intro X i
 unfold EG EX
 generalize l.take i=m
 induction m generalizing X with
 |nil=>rfl
 |cons a m ih=>rw[List.foldl_cons,ih];exact iO _ _ _
end
section
abbrev KnT:=List UInt8×Int×Int×Int×Int
abbrev E3:=List (Ky×KnT)
def ES(k:KnT):Value:= .agg #[sV k.1,iV k.2.1,iV k.2.2.1,iV k.2.2.2.1,iV k.2.2.2.2]
theorem WO{R:List Rs}{k:Nat}{r:Rs}(hr:R[k]? =some r)(st:Int):(Ci R st (k+1)).length=(Ci R st k).length+(if r.st=st then 1 else 0):=by
 by_cases h:r.st=st
 · rw[←Pq hr h,if_pos h,List.length_append];rfl
 · rw[←Pr hr h,if_neg h];rfl
theorem Ss(R:List Rs)(st:Int):(Ci R st 0).length=0:=rfl
theorem Qa{R:List Rs}(h: ∀r∈R,1≤r.st∧r.st≤4): ∀k,k≤R.length→(Ci R 1 k).length+(Ci R 2 k).length+(Ci R 3 k).length+(Ci R 4 k).length=k
 |0,_=>by simp only[Ss]
 |k+1,hk=>by
  have hr:R[k]? =some R[k]:=List.getElem?_eq_getElem hk
  have h1:=h R[k] (List.getElem_mem hk)
  have ih:=Qa h k om
  simp only[WO hr]
  have:R[k].st=1∨R[k].st=2∨R[k].st=3∨R[k].st=4:=by omega
  rcases this with a|a|a|a<;>simp only[a]<;>simp<;>omega
theorem vA{r:Rs}(h:FZ r=0):1≤r.st∧r.st≤4:=by
 have h1:=(Kp h).1
 unfold CH at h1
 omega
theorem Qb{n:Nat}{S:Ts}(W:Wf n S):(AT S.R 1).length+(AT S.R 2).length+(AT S.R 3).length+(AT S.R 4).length=S.R.length:=Qa (fun r hr=>vA (W.res r hr)) _ (Nat.le_refl _)
variable {ds : List Deferred}
section
variable {P : Program} {Q : Exit → Act → World → Prop} {g w : World} {A : List AB} {n : Nat} {l : Fr} {o : Oper} {N : Act → World → Prop} {L : List UInt8} {r p c : Nat}
theorem Cj{d:Nat}{x:Operand}(ho:o.op= .next x true)(hd:o.dst=some d)(hn:Nat.blt d n=true)(hx:fe n l x= .pointer (some ⟨r,0,none⟩))(hs:sat g w (Si r L p::A))(hp:p<L.length)(hmax:L.length≤9223372036854775807)(he:JT L p=(c,1))
 (zp zc:Int)(q:Nat)(h1:(p:Int)=zp)(h2:(c:Int)=zc)(h3:p+1=q)(h: ∀w',sat g w' (Si r L q::A)→N (Ad ds n ((d,.tuple #[bT,iV zp,.int .i32 zc])::l)) w'):OP P o (Ad ds n l) w N Q:=by
 subst h1;subst h2;subst h3
 have a:=Td (ds:=ds) (N:=N) (Q:=Q) (P:=P) ho hd hn hx hs hp hmax
 rw[he] at a
 exact a h
end
end
end Go.Proofs.YtcgkoffnknpgjaaGreatDoor
