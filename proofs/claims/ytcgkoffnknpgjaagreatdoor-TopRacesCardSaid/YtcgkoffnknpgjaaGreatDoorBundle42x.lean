/- Walks, printed by my generator t28.py. -/
import Derived.Test.YtcgkoffnknpgjaaGreatDoorBundle41x
import Derived.Test.YtcgkoffnknpgjaaGreatDoorModx
namespace Go.Proofs.YtcgkoffnknpgjaaGreatDoor
set_option linter.unusedVariables false
set_option linter.unusedSimpArgs false
open Tryz
set_option maxHeartbeats 4000000
theorem aK{n m p:Nat}(h:p≤3+2*n):RZ n m p m:=⟨fun _=>rfl,fun _=> .inl rfl,h⟩
def Q4(n p:Nat):Nat:=if p<3+2*n then p+1 else p
theorem aL{n m p:Nat}:Dr n m p m=Q4 n p:=by
 unfold Dr Q4
 (repeat' split)<;>omega
theorem aM{m p:Nat}:Fy m p m=0:=by
 unfold Fy
 split<;>first|rfl |(exfalso;omega)
theorem rB{n p:Nat}(h:p≤3+2*n):Q4 n p≤3+2*n∧p≤Q4 n p∧Q4 n p≤p+1∧1≤Q4 n p:=by
 unfold Q4
 split<;>omega
def aN(b q:Nat)(gn:Int)(p:Nat):AB:=if p≤3 then D2 b q 0 0 gn else F1 b q
theorem rC(b ar yc rq n m:Nat)(zz yy:Int)(q:Nat)(mq bt ba cp fi:Int)(tb wd qo lk:Nat)(A:List AM)(gn ec bg:Int)(p:Nat)(_:0≤(n:Int)-1)(_:0≤ec)(_:0≤ -ec+1000000)(_:0≤(m:Int)-1)(_:0≤(q:Int)-1)(_:0≤gn-1)(_:0≤2*(n:Int)-(p:Int)+3)(E:(p:Int)-3≠0):HQ 142 [pV b,iV 1] [AU b ar yc rq n m zz yy q mq bt ba cp fi tb wd qo lk,C8 yc n m ec bg p m,Cw ar n m A 0 gn p,D2 rq q 0 0 gn] (iV 0) [AU b ar yc rq n m zz yy q mq bt ba cp fi tb wd qo lk,C8 yc n m ec bg (Dr n m p m) (Fy m p m),Cw ar n m A 0 gn (Dr n m p m),D2 rq q 0 0 gn]:=by
 refine AC func142 ntmps142 fun g w0 R h0=> ?_
 have hG:RZ n m p m:=aK om
 refine g0<|AF call23 (Ae b ar yc rq n m zz yy q mq bt ba cp fi tb wd qo lk) h0 fun _ l=>g0<|AP call57 (Gl 1 om om) l fun _ o=>g0<|DS 2<|g0<|dw (AE [0,1,2,3,4,5,6,7,8,9,10,11,12,13,14] (Tr.an2 15 (Tr.an2 16 (AE [17,18,19,20] (Tr.an 21 (Tr.an 22 (AE [23,24] Tr.nil)))) 21 (Tr.an 16 (AE [17,18,19,20] (Tr.an 22 (AE [23,24] Tr.nil))))) 21 (Tr.an 15 (Tr.an 16 (AE [17,18,19,20] (Tr.an 22 (AE [23,24] Tr.nil))))))) o fun _ a=>go [rd 7 4 0 1 1 a,rd 7 9 0 0 1 a,rd 7 14 0 2 1 a] ?_
 refine IN ?_ ?_
 ·
  refine BZ call214 (Jq rq q 0 0 gn) a.c.t5 fun _ f=>⟨kd [rd 0 9 1 0 1 f,rd 0 4 1 1 1 f],?_⟩
  refine IN ?_ ?_
  ·
   refine FN call213 (DZ yc ar n m A 0 gn ec bg p m (q:Int) hG om om om om om om) f.c.c.t5 fun _ s=>⟨kd [],?_⟩
   refine g0<|nG (fun q_=>pV q_) 203 [iV 0,uV 0] s (fun _ _ t=>⟨kd [],?_⟩)
   refine sB [iV 0,uV 0] t fun _ u=>⟨kd [],?_⟩
   refine g0<|Bm<|g0<|up<|g0 ?_
   exact AD _ [] u.c.c.c.d.t6.e.d.d.d.d.t5
  refine nG (fun q_=>pV q_) 203 [iV 0,uV 0] f (fun _ _ j=>⟨kd [rd 0 9 2 0 1 j,rd 0 4 2 1 1 j],?_⟩)
  refine FN call213 (DZ yc ar n m A 0 gn ec bg p m (q:Int) hG om om om om om om) j.d.d.t6 fun _ x=>⟨kd [],?_⟩
  have y:=x.b.t6
  refine g0<|sB [iV 0,uV 0] y fun _ z=>⟨kd [],?_⟩
  refine g0<|Bm<|g0<|up<|g0 ?_
  exact AD _ [] z.c.c.c.d.t6.e.d.d.d.d.t5
 refine nG (fun q_=>pV q_) 203 [iV 0,uV 0] a (fun _ _ i=>⟨kd [rd 0 14 1 2 1 i,rd 0 9 1 0 1 i,rd 0 4 1 1 1 i],?_⟩)
 refine BZ call214 (Jq rq q 0 0 gn) i.d.t6 fun _ k=>⟨kd [rd 0 9 2 0 1 k,rd 0 4 2 1 1 k],?_⟩
 refine FN call213 (DZ yc ar n m A 0 gn ec bg p m (q:Int) hG om om om om om om) k.d.d.t6 fun _ B=>⟨kd [],?_⟩
 have C:=B.c.t6
 refine g0<|sB [iV 0,uV 0] C fun _ D=>⟨kd [],?_⟩
 refine g0<|Bm<|g0<|up<|g0 ?_
 exact AD _ [] D.c.c.c.d.t6.e.d.d.d.d.t5
theorem Q5(p a j:Nat)(G:Option Addr)(H I:Nat)(J:Option Addr)(L M k l m b:Nat)(q s:Int)(e:Nat)(t u x y z:Int)(A B C D:Nat)(o E:Int)(c:Nat)(F:List AM)(i:Int)(_:0≤(b:Int)-1)(_:0≤o)(_:0≤ -o+1000000)(_:0≤(a:Int)-1)(_:0≤(e:Int)-1)(_:0≤i-1)(_:0≤2*(b:Int)-(c:Int)+3)(V:(c:Int)-3≠0):HQ 85 [pV p,.agg #[iV 13,iV 0,iV 1,iV 0,iV 0,sV []]] [Cl p [iV a,pV j,.slice G H I,.slice J L M] 70,AU j k l m b a q s e t u x y z A B C D,C8 l b a o E c a,Cw k b a F 0 i c,D2 m e 0 0 i] (.agg #[iV 0,iV 0]) [Cl p [iV a,pV j,.slice G H I,.slice J L M] 70,AU j k l m b a q s e t u x y z A B C D,C8 l b a o E (Dr b a c a) (Fy a c a),Cw k b a F 0 i (Dr b a c a),D2 m e 0 0 i]:=by
 refine AC func85 ntmps85 fun g w0 R h0=>g0<|nP 37 [iV 13,iV 0,iV 1,iV 0,iV 0,sV []] h0 (fun _ _ P=> ?_)
 refine nP 34 [iV 0,iV 0] P (fun _ _ Q=> ?_)
 refine g0<|dw (AE [0,1,2,3,4,5] (Tr.an 6 (Tr.fl 7 (Tr.an 8 Tr.nil)))) Q fun _ N=> ?_
 have S:=N.f.f.f.f.t8
 refine go [rd 1 3 2 1 1 N,rd 1 5 1 2 1 N]<|Rb call142 (rC j k l m b a q s e t u x y z A B C D F i o E c om om om om om om om om) S fun _ T=>⟨kd [],?_⟩
 have U:=T.d.t8
 refine g0<|sB [iV 0,iV 0] U fun _ O=>⟨kd [],?_⟩
 refine g0 ?_
 exact AD _ [rd 0 0 0 0 2 O] O.d.d.d.d.f.t8.x.e.e.e.e.e.t6
theorem Wp(u a l:Nat)(y:Option Addr)(A B:Nat)(C:Option Addr)(D E o p q b:Nat)(F G:Int)(i:Nat)(H I J L M:Int)(N O P Q:Nat)(s S:Int)(c:Nat)(T:List AM)(k:Int)(_:0≤(b:Int)-1)(_:0≤s)(_:0≤ -s+1000000)(_:0≤(a:Int)-1)(_:0≤(i:Int)-1)(_:0≤k-1)(_:0≤2*(b:Int)-(c:Int)+3)(ah:(c:Int)-3≠0):HQ 18 [pV u,.agg #[iV 13,iV 0,iV 1,iV 0,iV 0,sV []]] [Cl u [iV a,pV l,.slice y A B,.slice C D E] 70,AU l o p q b a F G i H I J L M N O P Q,C8 p b a s S c a,Cw o b a T 0 k c,D2 q i 0 0 k] (.agg #[iV 0,iV 0]) [Cl u [iV a,pV l,.slice y A B,.slice C D E] 70,AU l o p q b a F G i H I J L M N O P Q,C8 p b a s S (Dr b a c a) (Fy a c a),Cw o b a T 0 k (Dr b a c a),D2 q i 0 0 k]:=by
 refine AC func18 ntmps18 fun g w0 R h0=>g0<|nP 37 [iV 13,iV 0,iV 1,iV 0,iV 0,sV []] h0 (fun _ _ aa=> ?_)
 refine nP 34 [iV 0,iV 0] aa (fun _ _ V=> ?_)
 refine go [rd 1 0 1 0 6 V]<|AP call34 (H4 1 om om) V fun _ ab=>g0<|dw (AE [0,1] (Tr.an 2 (AE [3,4,5,6,7,8,9,10,11,12] Tr.nil))) ab fun _ W=>go [rd 3 1 1 0 1 W]<|CJ call35 OM W fun _ ac=>⟨kd [],?_⟩
 refine g0<|dw (AE [0,1] (Tr.an 2 (AE [3,4,5,6,7,8,9,10,11,12,13] Tr.nil))) ac fun _ X=>go [rd 4 1 1 0 1 X]<|CJ call36 OO X fun _ ad=>⟨kd [],?_⟩
 refine g0<|dw (AE [1,2] (Tr.an 0 (Tr.an 3 (AE [4,5,6,7,8] Tr.nil)))) ad fun _ Y=>go [rd 6 2 1 0 1 Y]<|cG call37 Aq Y ?_
 rintro v K _ (⟨ai,rfl,rfl⟩) ae
 have U:=B3 ae
 refine⟨kd [rd 0 2 2 0 1 U],?_⟩
 refine AH ?_
 refine AX (d:=43) (.tuple #[.func (Fn.func 85) #[] #[],bT]) kr rfl (BN (t:=106) (z:=Value.nilFunc) (m:=Ot 40) (x:=Ot 42) (kv:=kI) (ve:=vF) kr underlying106 Dc kr 13 kr kr (j:=0) U rfl (.func (Fn.func 85) #[] #[]) 85 (AG om (AG om (AG om (AG om (AG om (AG om (Bz rfl))))))) rfl) ?_
 refine⟨kd [],DE ?_⟩
 have af:=U.x.x.x.x.x.t9
 refine go [rd 8 2 2 0 6 U]<|LK call85 (Q5 u a l y A B C D E o p q b F G i H I J L M N O P Q s S c T k om om om om om om om om) af fun _ ag=>sA [iV 0,iV 0] ag.f.t9 fun _ Z=>g0 ?_
 exact AD _ [rd 0 0 0 0 2 Z] Z.e.e.e.e.e.t9.h.e.e.e.e.e.t6
theorem aO(mb rg ar yc rq n m:Nat)(zz yy:Int)(q:Nat)(mq bt ba cp fi:Int)(tb wd qo lk:Nat)(D:List Ky)(nr:Nat)(A:List AM)(gn ec bg:Int)(p:Nat)(_:0≤ -(nr:Int)+99999)(_:0≤(n:Int)-1)(_:0≤ec)(_:0≤ -ec+1000000)(_:0≤(m:Int)-1)(_:0≤(q:Int)-1)(_:0≤gn-1)(_:0≤2*(n:Int)-(p:Int)+3)(W:(p:Int)-3≠0):HQ 7 [pV mb,.agg #[iV 13,iV 0,iV 1,iV 0,iV 0,sV []]] [BU mb rg m D nr,AU rg ar yc rq n m zz yy q mq bt ba cp fi tb wd qo lk,C8 yc n m ec bg p m,Cw ar n m A 0 gn p,D2 rq q 0 0 gn] (.agg #[iV 0,iV 0]) [BU mb rg m D (nr+1),AU rg ar yc rq n m zz yy q mq bt ba cp fi tb wd qo lk,C8 yc n m ec bg (Dr n m p m) (Fy m p m),Cw ar n m A 0 gn (Dr n m p m),D2 rq q 0 0 gn]:=by
 refine AC func7 ntmps7 fun g w0 R h0=> ?_
 obtain⟨a,f,k,l,u,X,Y,G⟩:=BX h0
 have H:sat g _ (Cl mb [iV m,pV rg,.slice a D.length f,.slice k nr l] 70::_):=G
 refine g0<|nP 37 [iV 13,iV 0,iV 1,iV 0,iV 0,sV []] H (fun Z _ I=> ?_)
 refine nP 34 [iV 0,iV 0] I (fun aa _ J=> ?_)
 have L:=J.b.t10
 refine g0<|AF call17 (Ai mb m rg a D.length f k nr l) L fun _ y=> ?_
 have M:=y.h.h.h.h.d.t10
 refine go [rd 3 1 2 0 6 y]<|LK call18 (Wp mb m rg a D.length f k nr l ar yc rq n zz yy q mq bt ba cp fi tb wd qo lk ec bg p A gn om om om om om om om om) M fun _ N=>nP 34 [iV 0,iV 0] N (fun ab _ O=> ?_)
 refine sA [iV 0,iV 0] O fun _ P=>g0<|dw (AE [0,1,2,3,4,5] (Tr.an 6 (Tr.an 7 (AE [8,9] (Tr.an 10 Tr.nil))))) P fun _ t=>go [rd 4 4 1 3 1 t,rd 4 5 0 0 2 t]<|nG (fun q_=> .slice (some ⟨q_,0,none⟩) 1 1) 34 [iV 0,iV 0] t (fun Q _ z=>⟨kd [rd 0 4 2 3 1 z],?_⟩)
 have B:=z.j.t12
 refine AH ?_
 refine aA 20 2 (Ot 17) (Ot 19) (.agg #[iV 0,iV 0]) k nr l 1 1 (⟨Q,0,none⟩) 16 underlying68 B (fl Fo [(0,0)]) rfl (Br B rfl) (Aw Cx _) (nr+1) ?_
 intro o s ac S
 have C:sat g _ (Sl 34 2 o (nr+1) s (fl Fo (u++ [(0,0)]))::_):=sJ S
 obtain⟨ad,ae⟩:=BH C
 refine⟨kd [],DE ?_⟩
 have T:=C.c.t12
 refine g0<|sG [(3,.slice o (nr+1) s)] [iV m,pV rg,.slice a D.length f,.slice o (nr+1) s] T fun _ E=>⟨kd [],?_⟩
 have U:=E.h.t12
 refine go [rd 5 0 3 0 2 E]<|sA [iV 0,iV 0] U fun af F=>g0 ?_
 have V:sat g _ (BU mb rg m D (nr+1)::_):=BC mb rg m D (nr+1) a f o s (u++ [(0,0)]) om om F.b.j.c.t12
 exact AD _ [rd 0 0 0 0 2 F] V.x.x.x.x.d.t10.i.e.e.e.e.e.t6
theorem rD(b ar yc rq n m:Nat)(zz yy:Int)(q:Nat)(mq bt ba cp fi:Int)(tb wd qo lk:Nat)(A:List AM)(gn ec bg:Int)(p:Nat)(_:0≤(n:Int)-1)(_:0≤ec)(_:0≤ -ec+1000000)(_:0≤(m:Int)-1)(_:0≤(q:Int)-1)(_:0≤gn-1)(_:0≤(p:Int)-3)(_:0≤ -(p:Int)+3)(_:0≤2*(n:Int)-(p:Int)+3):HQ 142 [pV b,iV 1] [AU b ar yc rq n m zz yy q mq bt ba cp fi tb wd qo lk,C8 yc n m ec bg p m,Cw ar n m A 0 gn p,D2 rq q 0 0 gn] (iV 0) [AU b ar yc rq n m zz yy q mq bt ba cp fi tb wd qo lk,C8 yc n m ec bg (Dr n m p m) (Fy m p m),Cw ar n m A 0 gn (Dr n m p m),F1 rq q]:=by
 refine AC func142 ntmps142 fun g w0 R h0=> ?_
 have hG:RZ n m p m:=aK om
 refine g0<|AF call23 (Ae b ar yc rq n m zz yy q mq bt ba cp fi tb wd qo lk) h0 fun _ t=>g0<|AP call57 (Gl 1 om om) t fun _ u=>g0<|DS 2<|g0<|dw (AE [0,1,2,3,4,5,6,7,8,9,10,11,12,13,14] (Tr.an2 15 (Tr.an2 16 (AE [17,18,19,20] (Tr.an 21 (Tr.an 22 (AE [23,24] Tr.nil)))) 21 (Tr.an 16 (AE [17,18,19,20] (Tr.an 22 (AE [23,24] Tr.nil))))) 21 (Tr.an 15 (Tr.an 16 (AE [17,18,19,20] (Tr.an 22 (AE [23,24] Tr.nil))))))) u fun _ a=>go [rd 7 4 0 1 1 a,rd 7 9 0 0 1 a,rd 7 14 0 2 1 a] ?_
 refine IN ?_ ?_
 ·
  refine BZ call214 (Jq rq q 0 0 gn) a.c.t5 fun _ f=>⟨kd [rd 0 9 1 0 1 f,rd 0 4 1 1 1 f],?_⟩
  refine IN ?_ ?_
  ·
   refine FN call213 (FJ yc ar n m A 0 gn ec bg p m (q:Int) om om om om) f.c.c.t5 fun _ x=>⟨kd [],?_⟩
   refine g0<|nG (fun q_=>pV q_) 203 [iV 0,uV 0] x (fun _ _ y=>⟨kd [],?_⟩)
   refine sB [iV 0,uV gn] y fun _ z=>⟨kd [],?_⟩
   refine g0<|dw (AE [0,1,2,3,4,5] (Tr.an 6 Tr.nil)) z fun _ j=> ?_
   have B:=j.c.t6
   refine go [rd 11 4 4 2 1 j,rd 11 5 0 0 2 j]<|BZ call215 (OU rq q 0 gn) B fun _ C=>⟨kd [],?_⟩
   refine g0<|Bm<|g0<|up<|g0 ?_
   exact AD _ [] C.c.c.d.t6.e.d.d.d.d.t5
  refine nG (fun q_=>pV q_) 203 [iV 0,uV 0] f (fun _ _ k=>⟨kd [rd 0 9 2 0 1 k,rd 0 4 2 1 1 k],?_⟩)
  refine FN call213 (FJ yc ar n m A 0 gn ec bg p m (q:Int) om om om om) k.d.d.t6 fun _ D=>⟨kd [],?_⟩
  have E:=D.b.t6
  refine g0<|sB [iV 0,uV gn] E fun _ F=>⟨kd [],?_⟩
  refine g0<|dw (AE [0,1,2,3,4,5] (Tr.an 6 Tr.nil)) F fun _ l=> ?_
  have G:=l.c.t6
  refine go [rd 11 4 4 2 1 l,rd 11 5 0 0 2 l]<|BZ call215 (OU rq q 0 gn) G fun _ H=>⟨kd [],?_⟩
  refine g0<|Bm<|g0<|up<|g0 ?_
  exact AD _ [] H.c.c.d.t6.e.d.d.d.d.t5
 refine nG (fun q_=>pV q_) 203 [iV 0,uV 0] a (fun _ _ i=>⟨kd [rd 0 14 1 2 1 i,rd 0 9 1 0 1 i,rd 0 4 1 1 1 i],?_⟩)
 refine BZ call214 (Jq rq q 0 0 gn) i.d.t6 fun _ o=>⟨kd [rd 0 9 2 0 1 o,rd 0 4 2 1 1 o],?_⟩
 refine FN call213 (FJ yc ar n m A 0 gn ec bg p m (q:Int) om om om om) o.d.d.t6 fun _ I=>⟨kd [],?_⟩
 have J:=I.c.t6
 refine g0<|sB [iV 0,uV gn] J fun _ L=>⟨kd [],?_⟩
 refine g0<|dw (AE [0,1,2,3,4,5] (Tr.an 6 Tr.nil)) L fun _ s=> ?_
 have M:=s.c.t6
 refine go [rd 11 4 4 2 1 s,rd 11 5 0 0 2 s]<|BZ call215 (OU rq q 0 gn) M fun _ N=>⟨kd [],?_⟩
 refine g0<|Bm<|g0<|up<|g0 ?_
 exact AD _ [] N.c.c.d.t6.e.d.d.d.d.t5
theorem Q6(p a i:Nat)(G:Option Addr)(H I:Nat)(J:Option Addr)(L M j k l b:Nat)(q s:Int)(e:Nat)(t u x y z:Int)(A B C D:Nat)(m E:Int)(c:Nat)(F:List AM)(o:Int)(_:0≤(b:Int)-1)(_:0≤m)(_:0≤ -m+1000000)(_:0≤(a:Int)-1)(_:0≤(e:Int)-1)(_:0≤o-1)(_:0≤(c:Int)-3)(_:0≤ -(c:Int)+3):HQ 85 [pV p,.agg #[iV 13,iV 0,iV 1,iV 0,iV 0,sV []]] [Cl p [iV a,pV i,.slice G H I,.slice J L M] 70,AU i j k l b a q s e t u x y z A B C D,C8 k b a m E c a,Cw j b a F 0 o c,D2 l e 0 0 o] (.agg #[iV 0,iV 0]) [Cl p [iV a,pV i,.slice G H I,.slice J L M] 70,AU i j k l b a q s e t u x y z A B C D,C8 k b a m E (Dr b a c a) (Fy a c a),Cw j b a F 0 o (Dr b a c a),F1 l e]:=by
 refine AC func85 ntmps85 fun g w0 R h0=>g0<|nP 37 [iV 13,iV 0,iV 1,iV 0,iV 0,sV []] h0 (fun _ _ P=> ?_)
 refine nP 34 [iV 0,iV 0] P (fun _ _ Q=> ?_)
 refine g0<|dw (AE [0,1,2,3,4,5] (Tr.an 6 (Tr.fl 7 (Tr.an 8 Tr.nil)))) Q fun _ N=> ?_
 have S:=N.f.f.f.f.t8
 refine go [rd 1 3 2 1 1 N,rd 1 5 1 2 1 N]<|Rb call142 (rD i j k l b a q s e t u x y z A B C D F o m E c om om om om om om om om om) S fun _ T=>⟨kd [],?_⟩
 have U:=T.d.t8
 refine g0<|sB [iV 0,iV 0] U fun _ O=>⟨kd [],?_⟩
 refine g0 ?_
 exact AD _ [rd 0 0 0 0 2 O] O.d.d.d.d.f.t8.x.e.e.e.e.e.t6
theorem Wq(u a k:Nat)(y:Option Addr)(A B:Nat)(C:Option Addr)(D E l o p b:Nat)(F G:Int)(i:Nat)(H I J L M:Int)(N O P Q:Nat)(q S:Int)(c:Nat)(T:List AM)(s:Int)(_:0≤(b:Int)-1)(_:0≤q)(_:0≤ -q+1000000)(_:0≤(a:Int)-1)(_:0≤(i:Int)-1)(_:0≤s-1)(_:0≤(c:Int)-3)(_:0≤ -(c:Int)+3):HQ 18 [pV u,.agg #[iV 13,iV 0,iV 1,iV 0,iV 0,sV []]] [Cl u [iV a,pV k,.slice y A B,.slice C D E] 70,AU k l o p b a F G i H I J L M N O P Q,C8 o b a q S c a,Cw l b a T 0 s c,D2 p i 0 0 s] (.agg #[iV 0,iV 0]) [Cl u [iV a,pV k,.slice y A B,.slice C D E] 70,AU k l o p b a F G i H I J L M N O P Q,C8 o b a q S (Dr b a c a) (Fy a c a),Cw l b a T 0 s (Dr b a c a),F1 p i]:=by
 refine AC func18 ntmps18 fun g w0 R h0=>g0<|nP 37 [iV 13,iV 0,iV 1,iV 0,iV 0,sV []] h0 (fun _ _ aa=> ?_)
 refine nP 34 [iV 0,iV 0] aa (fun _ _ V=> ?_)
 refine go [rd 1 0 1 0 6 V]<|AP call34 (H4 1 om om) V fun _ ab=>g0<|dw (AE [0,1] (Tr.an 2 (AE [3,4,5,6,7,8,9,10,11,12] Tr.nil))) ab fun _ W=>go [rd 3 1 1 0 1 W]<|CJ call35 OM W fun _ ac=>⟨kd [],?_⟩
 refine g0<|dw (AE [0,1] (Tr.an 2 (AE [3,4,5,6,7,8,9,10,11,12,13] Tr.nil))) ac fun _ X=>go [rd 4 1 1 0 1 X]<|CJ call36 OO X fun _ ad=>⟨kd [],?_⟩
 refine g0<|dw (AE [1,2] (Tr.an 0 (Tr.an 3 (AE [4,5,6,7,8] Tr.nil)))) ad fun _ Y=>go [rd 6 2 1 0 1 Y]<|cG call37 Aq Y ?_
 rintro v K _ (⟨ah,rfl,rfl⟩) ae
 have U:=B3 ae
 refine⟨kd [rd 0 2 2 0 1 U],?_⟩
 refine AH ?_
 refine AX (d:=43) (.tuple #[.func (Fn.func 85) #[] #[],bT]) kr rfl (BN (t:=106) (z:=Value.nilFunc) (m:=Ot 40) (x:=Ot 42) (kv:=kI) (ve:=vF) kr underlying106 Dc kr 13 kr kr (j:=0) U rfl (.func (Fn.func 85) #[] #[]) 85 (AG om (AG om (AG om (AG om (AG om (AG om (Bz rfl))))))) rfl) ?_
 refine⟨kd [],DE ?_⟩
 have af:=U.x.x.x.x.x.t9
 refine go [rd 8 2 2 0 6 U]<|LK call85 (Q6 u a k y A B C D E l o p b F G i H I J L M N O P Q q S c T s om om om om om om om om) af fun _ ag=>sA [iV 0,iV 0] ag.f.t9 fun _ Z=>g0 ?_
 exact AD _ [rd 0 0 0 0 2 Z] Z.e.e.e.e.e.t9.h.e.e.e.e.e.t6
theorem aP(mb rg ar yc rq n m:Nat)(zz yy:Int)(q:Nat)(mq bt ba cp fi:Int)(tb wd qo lk:Nat)(D:List Ky)(nr:Nat)(A:List AM)(gn ec bg:Int)(p:Nat)(_:0≤ -(nr:Int)+99999)(_:0≤(n:Int)-1)(_:0≤ec)(_:0≤ -ec+1000000)(_:0≤(m:Int)-1)(_:0≤(q:Int)-1)(_:0≤gn-1)(_:0≤(p:Int)-3)(_:0≤ -(p:Int)+3)(_:0≤2*(n:Int)-(p:Int)+3):HQ 7 [pV mb,.agg #[iV 13,iV 0,iV 1,iV 0,iV 0,sV []]] [BU mb rg m D nr,AU rg ar yc rq n m zz yy q mq bt ba cp fi tb wd qo lk,C8 yc n m ec bg p m,Cw ar n m A 0 gn p,D2 rq q 0 0 gn] (.agg #[iV 0,iV 0]) [BU mb rg m D (nr+1),AU rg ar yc rq n m zz yy q mq bt ba cp fi tb wd qo lk,C8 yc n m ec bg (Dr n m p m) (Fy m p m),Cw ar n m A 0 gn (Dr n m p m),F1 rq q]:=by
 refine AC func7 ntmps7 fun g w0 R h0=> ?_
 obtain⟨a,f,k,l,u,W,X,G⟩:=BX h0
 have H:sat g _ (Cl mb [iV m,pV rg,.slice a D.length f,.slice k nr l] 70::_):=G
 refine g0<|nP 37 [iV 13,iV 0,iV 1,iV 0,iV 0,sV []] H (fun Y _ I=> ?_)
 refine nP 34 [iV 0,iV 0] I (fun Z _ J=> ?_)
 have L:=J.b.t10
 refine g0<|AF call17 (Ai mb m rg a D.length f k nr l) L fun _ y=> ?_
 have M:=y.h.h.h.h.d.t10
 refine go [rd 3 1 2 0 6 y]<|LK call18 (Wq mb m rg a D.length f k nr l ar yc rq n zz yy q mq bt ba cp fi tb wd qo lk ec bg p A gn om om om om om om om om) M fun _ N=>nP 34 [iV 0,iV 0] N (fun aa _ O=> ?_)
 refine sA [iV 0,iV 0] O fun _ P=>g0<|dw (AE [0,1,2,3,4,5] (Tr.an 6 (Tr.an 7 (AE [8,9] (Tr.an 10 Tr.nil))))) P fun _ t=>go [rd 4 4 1 3 1 t,rd 4 5 0 0 2 t]<|nG (fun q_=> .slice (some ⟨q_,0,none⟩) 1 1) 34 [iV 0,iV 0] t (fun Q _ z=>⟨kd [rd 0 4 2 3 1 z],?_⟩)
 have B:=z.j.t12
 refine AH ?_
 refine aA 20 2 (Ot 17) (Ot 19) (.agg #[iV 0,iV 0]) k nr l 1 1 (⟨Q,0,none⟩) 16 underlying68 B (fl Fo [(0,0)]) rfl (Br B rfl) (Aw Cx _) (nr+1) ?_
 intro o s ab S
 have C:sat g _ (Sl 34 2 o (nr+1) s (fl Fo (u++ [(0,0)]))::_):=sJ S
 obtain⟨ac,ad⟩:=BH C
 refine⟨kd [],DE ?_⟩
 have T:=C.c.t12
 refine g0<|sG [(3,.slice o (nr+1) s)] [iV m,pV rg,.slice a D.length f,.slice o (nr+1) s] T fun _ E=>⟨kd [],?_⟩
 have U:=E.h.t12
 refine go [rd 5 0 3 0 2 E]<|sA [iV 0,iV 0] U fun ae F=>g0 ?_
 have V:sat g _ (BU mb rg m D (nr+1)::_):=BC mb rg m D (nr+1) a f o s (u++ [(0,0)]) om om F.b.j.c.t12
 exact AD _ [rd 0 0 0 0 2 F] V.x.x.x.x.d.t10.i.e.e.e.e.e.t6
theorem rE(b ar yc rq n m:Nat)(zz yy:Int)(q:Nat)(mq bt ba cp fi:Int)(tb wd qo lk:Nat)(A:List AM)(gn ec bg:Int)(p:Nat)(_:0≤(n:Int)-1)(_:0≤ec)(_:0≤ -ec+1000000)(_:0≤(m:Int)-1)(_:0≤(q:Int)-1)(_:0≤gn-1)(_:0≤2*(n:Int)-(p:Int)+3)(E:(p:Int)-3≠0):HQ 142 [pV b,iV 1] [AU b ar yc rq n m zz yy q mq bt ba cp fi tb wd qo lk,C8 yc n m ec bg p m,Cw ar n m A 0 gn p,F1 rq q] (iV 0) [AU b ar yc rq n m zz yy q mq bt ba cp fi tb wd qo lk,C8 yc n m ec bg (Dr n m p m) (Fy m p m),Cw ar n m A 0 gn (Dr n m p m),F1 rq q]:=by
 refine AC func142 ntmps142 fun g w0 R h0=> ?_
 have hG:RZ n m p m:=aK om
 refine g0<|AF call23 (Ae b ar yc rq n m zz yy q mq bt ba cp fi tb wd qo lk) h0 fun _ l=>g0<|AP call57 (Gl 1 om om) l fun _ o=>g0<|DS 2<|g0<|dw (AE [0,1,2,3,4,5,6,7,8,9,10,11,12,13,14] (Tr.an2 15 (Tr.an2 16 (AE [17,18,19,20] (Tr.an 21 (Tr.an 22 (AE [23,24] Tr.nil)))) 21 (Tr.an 16 (AE [17,18,19,20] (Tr.an 22 (AE [23,24] Tr.nil))))) 21 (Tr.an 15 (Tr.an 16 (AE [17,18,19,20] (Tr.an 22 (AE [23,24] Tr.nil))))))) o fun _ a=>go [rd 7 4 0 1 1 a,rd 7 9 0 0 1 a,rd 7 14 0 2 1 a] ?_
 refine IN ?_ ?_
 ·
  refine BZ call214 (Up rq q) a.c.t5 fun _ f=>⟨kd [rd 0 9 1 0 1 f,rd 0 4 1 1 1 f],?_⟩
  refine IN ?_ ?_
  ·
   refine FN call213 (DZ yc ar n m A 0 gn ec bg p m ((q:Int)-1) hG om om om om om om) f.c.c.t5 fun _ s=>⟨kd [],?_⟩
   refine g0<|nG (fun q_=>pV q_) 203 [iV 0,uV 0] s (fun _ _ t=>⟨kd [],?_⟩)
   refine sB [iV 0,uV 0] t fun _ u=>⟨kd [],?_⟩
   refine g0<|Bm<|g0<|up<|g0 ?_
   exact AD _ [] u.c.c.c.d.t6.e.d.d.d.d.t5
  refine nG (fun q_=>pV q_) 203 [iV 0,uV 0] f (fun _ _ j=>⟨kd [rd 0 9 2 0 1 j,rd 0 4 2 1 1 j],?_⟩)
  refine FN call213 (DZ yc ar n m A 0 gn ec bg p m ((q:Int)-1) hG om om om om om om) j.d.d.t6 fun _ x=>⟨kd [],?_⟩
  have y:=x.b.t6
  refine g0<|sB [iV 0,uV 0] y fun _ z=>⟨kd [],?_⟩
  refine g0<|Bm<|g0<|up<|g0 ?_
  exact AD _ [] z.c.c.c.d.t6.e.d.d.d.d.t5
 refine nG (fun q_=>pV q_) 203 [iV 0,uV 0] a (fun _ _ i=>⟨kd [rd 0 14 1 2 1 i,rd 0 9 1 0 1 i,rd 0 4 1 1 1 i],?_⟩)
 refine BZ call214 (Up rq q) i.d.t6 fun _ k=>⟨kd [rd 0 9 2 0 1 k,rd 0 4 2 1 1 k],?_⟩
 refine FN call213 (DZ yc ar n m A 0 gn ec bg p m ((q:Int)-1) hG om om om om om om) k.d.d.t6 fun _ B=>⟨kd [],?_⟩
 have C:=B.c.t6
 refine g0<|sB [iV 0,uV 0] C fun _ D=>⟨kd [],?_⟩
 refine g0<|Bm<|g0<|up<|g0 ?_
 exact AD _ [] D.c.c.c.d.t6.e.d.d.d.d.t5
theorem Q7(p a i:Nat)(G:Option Addr)(H I:Nat)(J:Option Addr)(L M j k l b:Nat)(q s:Int)(e:Nat)(t u x y z:Int)(A B C D:Nat)(m E:Int)(c:Nat)(F:List AM)(o:Int)(_:0≤(b:Int)-1)(_:0≤m)(_:0≤ -m+1000000)(_:0≤(a:Int)-1)(_:0≤(e:Int)-1)(_:0≤o-1)(_:0≤2*(b:Int)-(c:Int)+3)(V:(c:Int)-3≠0):HQ 85 [pV p,.agg #[iV 13,iV 0,iV 1,iV 0,iV 0,sV []]] [Cl p [iV a,pV i,.slice G H I,.slice J L M] 70,AU i j k l b a q s e t u x y z A B C D,C8 k b a m E c a,Cw j b a F 0 o c,F1 l e] (.agg #[iV 0,iV 0]) [Cl p [iV a,pV i,.slice G H I,.slice J L M] 70,AU i j k l b a q s e t u x y z A B C D,C8 k b a m E (Dr b a c a) (Fy a c a),Cw j b a F 0 o (Dr b a c a),F1 l e]:=by
 refine AC func85 ntmps85 fun g w0 R h0=>g0<|nP 37 [iV 13,iV 0,iV 1,iV 0,iV 0,sV []] h0 (fun _ _ P=> ?_)
 refine nP 34 [iV 0,iV 0] P (fun _ _ Q=> ?_)
 refine g0<|dw (AE [0,1,2,3,4,5] (Tr.an 6 (Tr.fl 7 (Tr.an 8 Tr.nil)))) Q fun _ N=> ?_
 have S:=N.f.f.f.f.t8
 refine go [rd 1 3 2 1 1 N,rd 1 5 1 2 1 N]<|Rb call142 (rE i j k l b a q s e t u x y z A B C D F o m E c om om om om om om om om) S fun _ T=>⟨kd [],?_⟩
 have U:=T.d.t8
 refine g0<|sB [iV 0,iV 0] U fun _ O=>⟨kd [],?_⟩
 refine g0 ?_
 exact AD _ [rd 0 0 0 0 2 O] O.d.d.d.d.f.t8.x.e.e.e.e.e.t6
theorem Wr(s a k:Nat)(y:Option Addr)(A B:Nat)(C:Option Addr)(D E l o p b:Nat)(F G:Int)(i:Nat)(H I J L M:Int)(N O P Q:Nat)(q S:Int)(c:Nat)(T:List AM)(u:Int)(_:0≤(b:Int)-1)(_:0≤q)(_:0≤ -q+1000000)(_:0≤(a:Int)-1)(_:0≤(i:Int)-1)(_:0≤u-1)(_:0≤2*(b:Int)-(c:Int)+3)(ah:(c:Int)-3≠0):HQ 18 [pV s,.agg #[iV 13,iV 0,iV 1,iV 0,iV 0,sV []]] [Cl s [iV a,pV k,.slice y A B,.slice C D E] 70,AU k l o p b a F G i H I J L M N O P Q,C8 o b a q S c a,Cw l b a T 0 u c,F1 p i] (.agg #[iV 0,iV 0]) [Cl s [iV a,pV k,.slice y A B,.slice C D E] 70,AU k l o p b a F G i H I J L M N O P Q,C8 o b a q S (Dr b a c a) (Fy a c a),Cw l b a T 0 u (Dr b a c a),F1 p i]:=by
 refine AC func18 ntmps18 fun g w0 R h0=>g0<|nP 37 [iV 13,iV 0,iV 1,iV 0,iV 0,sV []] h0 (fun _ _ aa=> ?_)
 refine nP 34 [iV 0,iV 0] aa (fun _ _ V=> ?_)
 refine go [rd 1 0 1 0 6 V]<|AP call34 (H4 1 om om) V fun _ ab=>g0<|dw (AE [0,1] (Tr.an 2 (AE [3,4,5,6,7,8,9,10,11,12] Tr.nil))) ab fun _ W=>go [rd 3 1 1 0 1 W]<|CJ call35 OM W fun _ ac=>⟨kd [],?_⟩
 refine g0<|dw (AE [0,1] (Tr.an 2 (AE [3,4,5,6,7,8,9,10,11,12,13] Tr.nil))) ac fun _ X=>go [rd 4 1 1 0 1 X]<|CJ call36 OO X fun _ ad=>⟨kd [],?_⟩
 refine g0<|dw (AE [1,2] (Tr.an 0 (Tr.an 3 (AE [4,5,6,7,8] Tr.nil)))) ad fun _ Y=>go [rd 6 2 1 0 1 Y]<|cG call37 Aq Y ?_
 rintro v K _ (⟨ai,rfl,rfl⟩) ae
 have U:=B3 ae
 refine⟨kd [rd 0 2 2 0 1 U],?_⟩
 refine AH ?_
 refine AX (d:=43) (.tuple #[.func (Fn.func 85) #[] #[],bT]) kr rfl (BN (t:=106) (z:=Value.nilFunc) (m:=Ot 40) (x:=Ot 42) (kv:=kI) (ve:=vF) kr underlying106 Dc kr 13 kr kr (j:=0) U rfl (.func (Fn.func 85) #[] #[]) 85 (AG om (AG om (AG om (AG om (AG om (AG om (Bz rfl))))))) rfl) ?_
 refine⟨kd [],DE ?_⟩
 have af:=U.x.x.x.x.x.t9
 refine go [rd 8 2 2 0 6 U]<|LK call85 (Q7 s a k y A B C D E l o p b F G i H I J L M N O P Q q S c T u om om om om om om om om) af fun _ ag=>sA [iV 0,iV 0] ag.f.t9 fun _ Z=>g0 ?_
 exact AD _ [rd 0 0 0 0 2 Z] Z.e.e.e.e.e.t9.h.e.e.e.e.e.t6
theorem aR(mb rg ar yc rq n m:Nat)(zz yy:Int)(q:Nat)(mq bt ba cp fi:Int)(tb wd qo lk:Nat)(D:List Ky)(nr:Nat)(A:List AM)(gn ec bg:Int)(p:Nat)(_:0≤ -(nr:Int)+99999)(_:0≤(n:Int)-1)(_:0≤ec)(_:0≤ -ec+1000000)(_:0≤(m:Int)-1)(_:0≤(q:Int)-1)(_:0≤gn-1)(_:0≤2*(n:Int)-(p:Int)+3)(W:(p:Int)-3≠0):HQ 7 [pV mb,.agg #[iV 13,iV 0,iV 1,iV 0,iV 0,sV []]] [BU mb rg m D nr,AU rg ar yc rq n m zz yy q mq bt ba cp fi tb wd qo lk,C8 yc n m ec bg p m,Cw ar n m A 0 gn p,F1 rq q] (.agg #[iV 0,iV 0]) [BU mb rg m D (nr+1),AU rg ar yc rq n m zz yy q mq bt ba cp fi tb wd qo lk,C8 yc n m ec bg (Dr n m p m) (Fy m p m),Cw ar n m A 0 gn (Dr n m p m),F1 rq q]:=by
 refine AC func7 ntmps7 fun g w0 R h0=> ?_
 obtain⟨a,f,k,l,u,X,Y,G⟩:=BX h0
 have H:sat g _ (Cl mb [iV m,pV rg,.slice a D.length f,.slice k nr l] 70::_):=G
 refine g0<|nP 37 [iV 13,iV 0,iV 1,iV 0,iV 0,sV []] H (fun Z _ I=> ?_)
 refine nP 34 [iV 0,iV 0] I (fun aa _ J=> ?_)
 have L:=J.b.t10
 refine g0<|AF call17 (Ai mb m rg a D.length f k nr l) L fun _ y=> ?_
 have M:=y.h.h.h.h.d.t10
 refine go [rd 3 1 2 0 6 y]<|LK call18 (Wr mb m rg a D.length f k nr l ar yc rq n zz yy q mq bt ba cp fi tb wd qo lk ec bg p A gn om om om om om om om om) M fun _ N=>nP 34 [iV 0,iV 0] N (fun ab _ O=> ?_)
 refine sA [iV 0,iV 0] O fun _ P=>g0<|dw (AE [0,1,2,3,4,5] (Tr.an 6 (Tr.an 7 (AE [8,9] (Tr.an 10 Tr.nil))))) P fun _ t=>go [rd 4 4 1 3 1 t,rd 4 5 0 0 2 t]<|nG (fun q_=> .slice (some ⟨q_,0,none⟩) 1 1) 34 [iV 0,iV 0] t (fun Q _ z=>⟨kd [rd 0 4 2 3 1 z],?_⟩)
 have B:=z.j.t12
 refine AH ?_
 refine aA 20 2 (Ot 17) (Ot 19) (.agg #[iV 0,iV 0]) k nr l 1 1 (⟨Q,0,none⟩) 16 underlying68 B (fl Fo [(0,0)]) rfl (Br B rfl) (Aw Cx _) (nr+1) ?_
 intro o s ac S
 have C:sat g _ (Sl 34 2 o (nr+1) s (fl Fo (u++ [(0,0)]))::_):=sJ S
 obtain⟨ad,ae⟩:=BH C
 refine⟨kd [],DE ?_⟩
 have T:=C.c.t12
 refine g0<|sG [(3,.slice o (nr+1) s)] [iV m,pV rg,.slice a D.length f,.slice o (nr+1) s] T fun _ E=>⟨kd [],?_⟩
 have U:=E.h.t12
 refine go [rd 5 0 3 0 2 E]<|sA [iV 0,iV 0] U fun af F=>g0 ?_
 have V:sat g _ (BU mb rg m D (nr+1)::_):=BC mb rg m D (nr+1) a f o s (u++ [(0,0)]) om om F.b.j.c.t12
 exact AD _ [rd 0 0 0 0 2 F] V.x.x.x.x.d.t10.i.e.e.e.e.e.t6
theorem jP(mb rg ar yc rq n m:Nat)(zz yy:Int)(q:Nat)(mq bt ba cp fi:Int)(tb wd qo lk:Nat)(D:List Ky)(nr:Nat)(A:List AM)(gn ec bg:Int)(p:Nat)(_:0≤ -(nr:Int)+99999)(_:0≤(n:Int)-1)(_:0≤ec)(_:0≤ -ec+1000000)(_:0≤(m:Int)-1)(_:0≤(q:Int)-1)(_:0≤gn-1)(_:0≤2*(n:Int)-(p:Int)+3):HQ 7 [pV mb,.agg #[iV 13,iV 0,iV 1,iV 0,iV 0,sV []]] [BU mb rg m D nr,AU rg ar yc rq n m zz yy q mq bt ba cp fi tb wd qo lk,C8 yc n m ec bg p m,Cw ar n m A 0 gn p,aN rq q gn p] (.agg #[iV 0,iV 0]) [BU mb rg m D (nr+1),AU rg ar yc rq n m zz yy q mq bt ba cp fi tb wd qo lk,C8 yc n m ec bg (Q4 n p) 0,Cw ar n m A 0 gn (Q4 n p),aN rq q gn (Q4 n p)]:=by
 by_cases h3:p=3
 · have h:=aP mb rg ar yc rq n m zz yy q mq bt ba cp fi tb wd qo lk D nr A gn ec bg p om om om om om om om om om om
   rw[aL,aM] at h
   unfold aN
   rw[if_pos (show p≤3 by omega),if_neg (show ¬Q4 n p≤3 by (unfold Q4;split<;>omega))]
   exact h
 by_cases h4:p≤3
 · have h:=aO mb rg ar yc rq n m zz yy q mq bt ba cp fi tb wd qo lk D nr A gn ec bg p om om om om om om om om om
   rw[aL,aM] at h
   unfold aN
   rw[if_pos (show p≤3 by omega),if_pos (show Q4 n p≤3 by (unfold Q4;split<;>omega))]
   exact h
 · have h:=aR mb rg ar yc rq n m zz yy q mq bt ba cp fi tb wd qo lk D nr A gn ec bg p om om om om om om om om om
   rw[aL,aM] at h
   unfold aN
   rw[if_neg (show ¬p≤3 by omega),if_neg (show ¬Q4 n p≤3 by (unfold Q4;split<;>omega))]
   exact h
section
def wQ(P:Program)(f:FuncId)(cap:List Value)(N:Nat)(xs:Nat→List Value)(A B:Nat→List AB):Prop:=
 ∀(g w:World) (F:List AB) (k:Nat) (J E:Nat→AB),
  (∀i,i<N→ ∀(w1:World) (G:List AB),sat g w1 (J i::(A (i+1)++G))→ ∀m,YieldAt (FW none) m P k (xs i).toArray w1 fun e w'=>(e= .returned (bT)∧sat g w' (J (i+1)::(B (i+1)++G)))∨(e= .returned (bF)∧sat g w' (E i::G)))→
  sat g w (J 0::(B 0++F))→Calls P f (Value.func (.yield k) #[] #[]::cap).toArray w fun e w'=>(∃v,e= .returned v)∧(sat g w' (J N::(B N++F))∨ ∃i,i<N∧sat g w' (E i::F))
def Bk(X Y:List AB):Nat→List AB
 |0=>X
 |_+1=>Y
section
variable {P : Program} {Q : Exit → Act → World → Prop} {g w : World} {L : List AB} {c : Code} {ds : List Deferred}
theorem jQ{n:Nat}{l:Fr}{x:Operand}{ps:Array Tmp}{asg bd:Code}{gf:Nat}{cap:List Value}{N:Nat}{xs:Nat→List Value}{A B:Nat→List AB}{K0:List AB}(ln:Nat→Fr)(lb:Nat→Nat→Fr)(Mid:Nat→Nat→List AB→Prop)(Inv:Nat→List AB→Prop)(Ex:Code→Nat→List AB→Prop)
 (e:c= .rangeFunc x ps asg bd)(hx:fe n l x= .func (.func gf) #[] cap.toArray)(eg: ∀a w,(callFunc gf a).run P w= .ok (.enter gf a) w)
 (hit:wQ P gf cap N xs A B)(h0:Inv 0 K0)(hs:sat g w (K0++(B 0++L)))(hps: ∀i,i<N→(xs i).length=ps.size)
 (hfr: ∀i,i<N→({tmps:=(ps.zip (xs i).toArray).foldl (fun t (p,v)=>t.setIfInBounds p v) (Ad ds n l).tmps,defers:= []}:Act)=mk n (ln i))
 (has: ∀i,i<N→ ∀(lp:Nat) (b:World) (K:List AB) (G:AB),Inv i K→sat g b (K++(A (i+1)++ [G]))→WP (some lp) P asg (Exit.then (fun a d=> ∃r K2,a=mk n (lb i r)∧Mid i r K2∧sat g d (K2++(A (i+1)++ [G]))) (fun _ _ _=>False)) (mk n (ln i)) b)
 (hbody: ∀i,i<N→ ∀(lp:Nat) (b:World) (r:Nat) (K:List AB) (G:AB),Mid i r K→sat g b (K++(A (i+1)++ [G]))→WP (some lp) P bd (RB g Inv Ex (B (i+1)) i G) (mk n (lb i r)) b)
 (hdone: ∀(D:Nat) (b:World) (K:List AB),Inv N K→sat g b (pt D (.deferred (some []))::(K++(B N++L)))→Q .normal (Ad (RV D::ds) n l) b)
 (hstop: ∀(D:Nat) (b:World) (ex:Code) (i:Nat) (K:List AB),i<N→Ex ex i K→sat g b (pt D (.deferred (some []))::(K++L))→WP none P ex Q (Ad (RV D::ds) n l) b):WP none P c Q (Ad ds n l) w:=fun hL m=>by
 subst e
 refine wpIn_rangeFunc ?_
 intro fn hfn
 obtain⟨rec,hrec⟩: ∃rec:LoopState→Option Code→Loop,rec=fun st pe=> {state:=st,pending:=pe,fn,tmps:=(Ad ds n l).tmps,params:=ps,assign:=asg,body:=bd,defers:=w.heap.size}:=⟨_,rfl⟩
 obtain⟨W1,hW1⟩: ∃W1,(w.alloc (.deferred (some []))).alloc (.loop (rec .ready none))=W1:=⟨_,rfl⟩
 have S:sat g W1 (pt (w.heap.size+1) (.loop (rec .ready none))::pt w.heap.size (.deferred (some []))::(K0++(B 0++L))):=by
  have f:=CN (CN hs (.deferred (some []))) (.loop (rec .ready none))
  rw[World.size_alloc] at f
  rw[←hW1]
  exact f
 let D:=w.heap.size
 let J:Nat→AB:=fun i h=> ∃K,Inv i K∧Aj (pt (D+1) (.loop (rec .ready none))::pt D (.deferred (some []))::K) h
 let E:Nat→AB:=fun i h=> ∃x:Code×List AB,Ex x.1 i x.2∧Aj (pt (D+1) (.loop (rec .done (some x.1)))::pt D (.deferred (some []))::x.2) h
 have openJ: ∀ {i:Nat} {b:World} {G:List AB},sat g b (J i::G)→ ∃K,Inv i K∧sat g b (pt (D+1) (.loop (rec .ready none))::pt D (.deferred (some []))::(K++G)):=fun {i b G} h=>by
  obtain⟨K,hK,f⟩:=Af (X:=List AB) (p:=fun K=>Inv i K) (B:=fun K=>Aj (pt (D+1) (.loop (rec .ready none))::pt D (.deferred (some []))::K)) h (fun k hk=>hk)
  exact⟨K,hK,AK f⟩
 have closeJ: ∀ {i:Nat} {b:World} {K G:List AB},Inv i K→sat g b (pt (D+1) (.loop (rec .ready none))::pt D (.deferred (some []))::(K++G))→sat g b (J i::G):=fun {i b K G} hK h=>
  AI (AO (K:=pt (D+1) (.loop (rec .ready none))::pt D (.deferred (some []))::K) h) fun k hk=>⟨K,hK,hk⟩
 have openE: ∀ {i:Nat} {b:World} {G:List AB},sat g b (E i::G)→ ∃x:Code×List AB,Ex x.1 i x.2∧sat g b (pt (D+1) (.loop (rec .done (some x.1)))::pt D (.deferred (some []))::(x.2++G)):=fun {i b G} h=>by
  obtain⟨x,hK,f⟩:=Af (X:=Code×List AB) (p:=fun x=>Ex x.1 i x.2) (B:=fun x=>Aj (pt (D+1) (.loop (rec .done (some x.1)))::pt D (.deferred (some []))::x.2)) h (fun k hk=>hk)
  exact⟨x,hK,AK f⟩
 have closeE: ∀ {i:Nat} {b:World} {ex:Code} {K G:List AB},Ex ex i K→sat g b (pt (D+1) (.loop (rec .done (some ex)))::pt D (.deferred (some []))::(K++G))→sat g b (E i::G):=fun {i b ex K G} hK h=>
  AI (AO (K:=pt (D+1) (.loop (rec .done (some ex)))::pt D (.deferred (some []))::K) h) fun k hk=>⟨(ex,K),hK,hk⟩
 have turn: ∀ {st u:LoopState} {pe y:Option Code} {b:World} {G:List AB},sat g b (pt (D+1) (.loop (rec st pe))::G)→sat g (b.putObj (D+1) (.loop (rec u y))) (pt (D+1) (.loop (rec u y))::G):=fun {st u pe y b G} h=>
  B0 h ⟨rfl,rfl,rfl,Nat.le_refl _⟩ (World.putObj_heap_same (Array.getElem?_eq_some_iff.1 (Ax (i:=0) h rfl)).1) (fun j hj=>World.putObj_heap_other hj)
 have endL: ∀ {st:LoopState} {pe:Option Code} {d:World} {G:List AB},st≠ .busy→sat g d (pt (D+1) (.loop (rec st pe))::G)→ ∃s,(Instr.endLoop (D+1)).run P d= .ok pe s∧sat g s G:=fun {st pe d G} hb h=>by
  have hl:=Ax (i:=0) h rfl
  have f:=run_endLoop (P:=P) hl (by rw[hrec];exact hb)
  have C:(rec st pe).pending=pe:=by rw[hrec]
  rw[C] at f
  exact⟨_,f,Ar (B0 h ⟨rfl,rfl,rfl,Nat.le_refl _⟩ (World.putObj_heap_same (Array.getElem?_eq_some_iff.1 hl).1) (fun j hj=>World.putObj_heap_other hj))⟩
 refine⟨D+1,[{target:= .collected D,args:= #[]}],W1,{target:= .fn (.func gf) cap.toArray,args:= #[.func (.yield (D+1)) #[] #[]]},W1,gf,
  #[.func (.yield (D+1)) #[] #[]]++cap.toArray,W1,?_,?_,fun _ _=>trivial,?_,fun hh=>by simp[Fence.wide] at hh,?_⟩
 · rw[←hW1,hrec];exact run_enterLoop_outer _ _ _ _ _
 · rw[An]
   simp only[resolve,hx]
   simp[go_sem]
   rfl
 · simp[invoke,go_sem,eg]
 · have hargs: #[Value.func (.yield (D+1)) #[] #[]]++cap.toArray=(Value.func (.yield (D+1)) #[] #[]::cap).toArray:=by simp
   rw[hargs]
   refine Jz ((hit g W1 L (D+1) J E ?_ (closeJ h0 S)).mono ?_)
   · intro i hi b G T m
     obtain⟨K,hK,f⟩:=openJ T
     have F:b.heap[D+1]? =some (.loop (rec .ready none)):=Ax (i:=0) f rfl
     have hy:=run_yield (P:=P) (args:=(xs i).toArray) F (by rw[hrec];simpa using hps i hi)
     rw[hrec] at hy
     refine⟨fn,_,asg,bd,hy,roundIn_of_wpIn hfn ?_⟩
     rw[hfr i hi]
     have hG:sat g b (K++(A (i+1)++ [Aj (G++ [pt (D+1) (.loop (rec .ready none)),pt D (.deferred (some []))])])):=by
      have H:sat g b ((K++A (i+1))++(G++ [pt (D+1) (.loop (rec .ready none)),pt D (.deferred (some []))])):=by
       have:=AN (A:= [pt (D+1) (.loop (rec .ready none)),pt D (.deferred (some []))]) (B:=K++(A (i+1)++G)) f
       simpa only[List.append_assoc] using this
      have q:=AN (A:=K++A (i+1)) H
      have o:=AN (A:= [_]) (B:=K++A (i+1)) (AO q)
      simpa only[List.append_assoc] using o
     refine wpIn_mono (has i hi (D+1) b K _ hK hG (fun⟨a,w,h⟩=>h) m) ?_
     intro e a2 d hp
     cases e with
     |normal=> ?_
     |ret=>exact hp
     |exit id=>exact hp
     |goto t=>exact hp
     |panic ch=>exact hp
     |outgrown=>exact hp
     obtain⟨r,K2,rfl,hM,U⟩:=hp
     have f:sat g d (pt (D+1) (.loop (rec .ready none))::pt D (.deferred (some []))::(K2++(A (i+1)++G))):=by
      have q:=AK (L:=K2++A (i+1)) (AN (A:=K2++A (i+1)) (B:= [_]) (by simpa only[List.append_assoc] using U))
      have o:sat g d (G++([pt (D+1) (.loop (rec .ready none)),pt D (.deferred (some []))]++(K2++A (i+1)))):=by simpa only[List.append_assoc] using q
      have z:=AN o
      simpa only[List.append_assoc,List.cons_append,List.nil_append] using z
     have F:d.heap[D+1]? =some (.loop (rec .ready none)):=Ax (i:=0) f rfl
     refine⟨_,run_beginRound F (by rw[hrec]),?_⟩
     have C:sat g (d.putObj (D+1) (.loop (rec .busy none))) (pt (D+1) (.loop (rec .busy none))::pt D (.deferred (some []))::(K2++(A (i+1)++G))):=turn f
     have e2:({rec .ready none with state:= .busy}:Loop)=rec .busy none:=by rw[hrec]
     rw[e2]
     have H:sat g (d.putObj (D+1) (.loop (rec .busy none))) ((K2++A (i+1))++(G++ [pt (D+1) (.loop (rec .busy none)),pt D (.deferred (some []))])):=by
      have:=AN (A:= [pt (D+1) (.loop (rec .busy none)),pt D (.deferred (some []))]) (B:=K2++(A (i+1)++G)) C
      simpa only[List.append_assoc] using this
     have h4:sat g (d.putObj (D+1) (.loop (rec .busy none))) (K2++(A (i+1)++ [Aj (G++ [pt (D+1) (.loop (rec .busy none)),pt D (.deferred (some []))])])):=by
      have q:=AN (A:=K2++A (i+1)) H
      have o:=AN (A:= [_]) (B:=K2++A (i+1)) (AO q)
      simpa only[List.append_assoc] using o
     have back: ∀ {d:World} {M:List AB},sat g d (M++ [Aj (G++ [pt (D+1) (.loop (rec .busy none)),pt D (.deferred (some []))])])→sat g d (pt (D+1) (.loop (rec .busy none))::pt D (.deferred (some []))::(M++G)):=fun {d M} h=>by
      have q:=AK (L:=M) (AN (A:=M) (B:= [_]) h)
      have o:sat g d (G++([pt (D+1) (.loop (rec .busy none)),pt D (.deferred (some []))]++M)):=by simpa only[List.append_assoc] using q
      have z:=AN o
      simpa only[List.append_assoc,List.cons_append,List.nil_append] using z
     have fin: ∀(jump:Option Code) (d:World),d.heap[D+1]? =some (.loop (rec .busy none))→
       (Instr.endRound (D+1) jump).run P d= .ok (.bool jump.isNone) (d.putObj (D+1) (.loop (rec (if jump.isNone then .ready else .done) jump))):=fun jump d h=>by
      have:=run_endRound (P:=P) jump h
      rw[hrec] at this ⊢
      exact this
     refine wpIn_mono (hbody i hi (D+1) _ r K2 _ hM h4 (fun⟨a,w,h⟩=>h) m) ?_
     intro e a3 s hp
     cases e with
     |normal=>
      obtain⟨K2,hK2,q⟩:=hp
      have o:=back (M:=K2++B (i+1)) (by simpa only[List.append_assoc] using q)
      refine⟨_,_,fin none s (Ax (i:=0) o rfl),.inl ⟨rfl,?_⟩⟩
      have z:=turn (u:= .ready) (y:=none) o
      rw[List.append_assoc] at z
      exact closeJ hK2 z
     |ret=>
      obtain⟨K2,hK2,q⟩:=hp
      have o:=back (M:=K2) q
      exact⟨_,_,fin (some .ret) s (Ax (i:=0) o rfl),.inr ⟨rfl,closeE hK2 (turn (u:= .done) (y:=some .ret) o)⟩⟩
     |exit id=>
      obtain⟨K2,hK2,q⟩:=hp
      have o:=back (M:=K2) q
      exact⟨_,_,fin (some (.exit id)) s (Ax (i:=0) o rfl),.inr ⟨rfl,closeE hK2 (turn (u:= .done) (y:=some (.exit id)) o)⟩⟩
     |goto t=>exact hp.elim
     |panic ch=>exact hp.elim
     |outgrown=>exact hp.elim
   · rintro e d ⟨⟨v,rfl⟩,h|⟨i,hi,h⟩⟩
     · obtain⟨K,hK,f⟩:=openJ h
       obtain⟨s,I,O⟩:=endL (st:= .ready) (pe:=none) (by simp) f
       exact⟨none,s,I,hdone D _ K hK O⟩
     · obtain⟨⟨ex,K⟩,hK,f⟩:=openE h
       obtain⟨s,I,O⟩:=endL (st:= .done) (pe:=some ex) (by simp) f
       exact⟨some ex,s,I,hstop D _ ex i K hi hK O hL _⟩
end
section
variable {P : Program} {f : FuncId} {fn : Func} {cap : List Value} {N : Nat} {xs : Nat → List Value} {A B : Nat → List AB}
theorem rF(n:Nat)(l:Nat→Fr)(hf:P.funcs[f]? =some fn)(hb:fn.body=some (CA fn []))(hn:fn.ntmps=n)(ha:Nat.ble (cap.length+1) n=true)(hl: ∀k,Cg (Value.func (.yield k) #[] #[]::cap) 0=l k)
 (h: ∀(g w:World) (R:AB) (k:Nat) (J E:Nat→AB),
   (∀i,i<N→ ∀(b:World) (G:List AB),sat g b (J i::(A (i+1)++G))→ ∀m,YieldAt (FW none) m P k (xs i).toArray b fun e w'=>(e= .returned (bT)∧sat g w' (J (i+1)::(B (i+1)++G)))∨(e= .returned (bF)∧sat g w' (E i::G)))→
   sat g w (J 0::(B 0++ [R]))→WP none P (CA fn []) (D6 0 P fn fun e w'=>(∃v,e= .returned v)∧(sat g w' (J N::(B N++ [R]))∨ ∃i,i<N∧sat g w' [E i,R])) (mk n (l k)) w):wQ P f cap N xs A B:=by
 intro g w F k J E hY hs
 have fold: ∀ {w:World} {M:List AB},sat g w (M++F)→sat g w (M++ [Aj F]):=fun {w M} h=>AN (A:= [Aj F]) (AO (AN h))
 have unfold': ∀ {w:World} {M:List AB},sat g w (M++ [Aj F])→sat g w (M++F):=fun {w M} h=>AN (AK (AN (B:= [Aj F]) h))
 refine Calls.mono (R:=fun e w'=>(∃v,e= .returned v)∧(sat g w' ((J N::B N)++ [Aj F])∨ ∃i,i<N∧sat g w' [E i,Aj F])) ?_ ?_
 · refine HR (m:=0) (callsIn_of_wp_marks hf hb trivial ?_)
   rw[hn,Jd (Value.func (.yield k) #[] #[]::cap) n (by simpa using Nat.le_of_ble_eq_true ha),hl]
   exact FT (h g w (Aj F) k J E hY (fold (M:=J 0::B 0) hs)) 0
 · rintro e w' ⟨he,a|⟨i,hi,a⟩⟩
   · exact⟨he,.inl (unfold' (M:=J N::B N) a)⟩
   · exact⟨he,.inr ⟨i,hi,unfold' (M:= [E i]) a⟩⟩
end
section
variable {P : Program} {g w : World} {n : Nat}
theorem zP{f:FuncId}{fn:Func}{cap:List Value}{N:Nat}{xs:Nat→List Value}{A B:Nat→List AB}(hf:P.funcs[f]? =some fn)(hn:fn.ntmps=n)
 (h: ∀(g w:World) (R:AB) (k:Nat) (J E:Nat→AB),
   (∀i,i<N→ ∀(a:World) (G:List AB),sat g a (J i::(A (i+1)++G))→ ∀m,YieldAt (FW none) m P k (xs i).toArray a fun e w'=>(e= .returned (bT)∧sat g w' (J (i+1)::(B (i+1)++G)))∨(e= .returned (bF)∧sat g w' (E i::G)))→
   sat g w (J 0::(B 0++ [R]))→GS none P (D6 0 P fn fun e w'=>(∃v,e= .returned v)∧(sat g w' (J N::(B N++ [R]))∨ ∃i,i<N∧sat g w' [E i,R])) [] n ⟨.co (CA fn []),[],Cg (Value.func (.yield k) #[] #[]::cap) 0⟩ w)
 (hb:fn.body=some (CA fn []):=by kernel_rfl)(ha:Nat.ble (cap.length+1) n=true:=by kernel_rfl):wQ P f cap N xs A B:=
 rF n (fun k=>Cg (Value.func (.yield k) #[] #[]::cap) 0) hf hb hn ha (fun _=>rfl) fun g w R k J E hY h0=>(h g w R k J E hY h0).out
end
section
variable {P : Program} {Q0 : Exit → Act → World → Prop} {ds : List Deferred} {n : Nat} {g w : World} {st : Sx} {L : List AB} {gf : Nat} {cap : List Value} {N : Nat} {xs : Nat → List Value} {K0 : List AB}
theorem wR{A B:Nat→List AB}(ex:Nat→Nat→Fr)(Mid:Nat→Nat→List AB→Prop)(Inv:Nat→List AB→Prop)(Ex:Code→Nat→List AB→Prop)(eg: ∀a w,(callFunc gf a).run P w= .ok (.enter gf a) w)(hit:wQ P gf cap N xs A B)(h0:Inv 0 K0)(hs:sat g w (K0++(B 0++L)))
 (hasg: ∀i,i<N→ ∀(lp:Nat) (b:World) (K:List AB) (G:AB),Inv i K→sat g b (K++(A (i+1)++ [G]))→GS (some lp) P (Exit.then (fun a w2=> ∃r K2,a=mk n (ex i r++st.l)∧Mid i r K2∧sat g w2 (K2++(A (i+1)++ [G]))) (fun _ _ _=>False)) [] n ⟨.co (mI st),[],PW (cT st).toList (xs i) st.l⟩ b)
 (hbody: ∀i,i<N→ ∀(lp:Nat) (b:World) (r:Nat) (K:List AB) (G:AB),Mid i r K→sat g b (K++(A (i+1)++ [G]))→GS (some lp) P (RB g Inv Ex (B (i+1)) i G) [] n ⟨.co (tI st),[],ex i r++st.l⟩ b)
 (hdone: ∀(D:Nat) (b:World) (K:List AB),Inv N K→sat g b (pt D (.deferred (some []))::(K++(B N++L)))→GS none P Q0 (RV D::ds) n ⟨.ou .normal,st.K,st.l⟩ b)
 (hstop: ∀(D:Nat) (b:World) (ex:Code) (i:Nat) (K:List AB),i<N→Ex ex i K→sat g b (pt D (.deferred (some []))::(K++L))→GS none P Q0 (RV D::ds) n ⟨.co ex,st.K,st.l⟩ b)
 (hx:fe n st.l (tH st)= .func (.func gf) #[] cap.toArray:=by kernel_rfl)(ha: ∀i,NP n st (xs i)=true:=by intro _;kernel_rfl):GS none P Q0 ds n st w:=by
 obtain⟨p,K,l⟩:=st
 cases p with
 |co c=>
  cases c with
  |rangeFunc x ps asg bd=>
   have ok: ∀i,XV n ps.toList (xs i)=true:=fun i=>by
    have h:=ha i
    simp only[NP,Bool.and_eq_true] at h
    exact h.2
   refine⟨jQ (fun i=>PW ps.toList (xs i) l) (fun i r=>ex i r++l) Mid Inv Ex rfl hx eg hit h0 hs (fun i _=> ?_) (fun i _=> ?_) ?_ ?_ ?_ ?_⟩
   · rw[Je (ok i),Array.length_toList]
   · have h:=XW (l:=l) (ok i)
     rw[KA]
     simpa using h
   · intro i hi lp b K1 G hK d
     exact(hasg i hi lp b K1 G hK d).out
   · intro i hi lp b r K1 G hK d
     exact(hbody i hi lp b r K1 G hK d).out
   · intro D b K1 hK d
     exact(hdone D b K1 hK d).out
   · intro D b ex i K1 hi hE d
     exact(hstop D b ex i K1 hi hE d).out
  |_=>have h:=ha 0;simp[NP,PV] at h
 |_=>have h:=ha 0;simp[NP,PV] at h
end
end
def Ux(b q:Nat)(f:Int):List AB:= [Bl b q f]
def rG(b q:Nat):AB:=fun h=> ∃f:Int,Aj (Ux b q f) h
theorem LA{g w:World}{L_:List AB}{b:Nat}{q:Nat}(h:sat g w (rG b q::L_)): ∃f:Int,sat g w (Ux b q f++L_):=by
 obtain⟨f,hp,h2⟩:=Af (X:=Int) (p:=fun q_=>True) (B:=fun q_=>Aj (Ux b q q_)) h (fun _ hk=>by obtain⟨f,hk⟩:=hk;exact⟨f,trivial,hk⟩)
 exact⟨f,AK h2⟩
theorem I3{g w:World}{L_:List AB}(b q:Nat)(f:Int)(h:sat g w (Ux b q f++L_)):sat g w (rG b q::L_):=AI (AO h) fun _ hk=>⟨f,hk⟩
theorem LB(i j k a l m d f:Nat):HQ 310 [pV i,pV j,pV k] [Cl a [pV l,pV m,pV d,iV 256] 170,Cl k [bF] 4,Cl j [iV 0] 3,Cl i [pV a] 77,Cl d [.map (some f)] 273,Gp kI kI f ([]:List (Int×Int))] (iV 0) [Cl a [pV l,pV m,pV d,iV 256] 170,Cl k [bF] 4,Cl j [iV 0] 3,Cl i [pV a] 77,Cl d [.map (some f)] 273,Gp kI kI f ([]:List (Int×Int))]:=by
 refine AC func310 ntmps310 fun g w0 R o=> ?_
 have q:=o.e.e.b.t7
 refine go [rd 1 0 3 0 1 o,rd 1 1 2 0 1 o]<|IM call311 (JN a 0 l m d f om) q fun _ s=> ?_
 have t:=s.c.t7
 refine g0<|sA [bF] t fun _ p=>go [rd 2 0 0 0 1 p] ?_
 exact AD _ [] p.e.e.b.c.t7
theorem Q8(a e f i j k b d:Nat):HQ 309 [pV a,iV 0,.func (Fn.func 310) #[] #[pV e,pV f,pV i]] [Cl i [bF] 4,Cl f [iV 0] 3,Cl e [pV a] 77,Cl a [pV j,pV k,pV b,iV 256] 170,Cl b [.map (some d)] 273,Gp kI kI d ([]:List (Int×Int))] (iV 0) [Cl i [bF] 4,Cl f [iV 0] 3,Cl e [pV a] 77,Cl a [pV j,pV k,pV b,iV 256] 170,Cl b [.map (some d)] 273,Gp kI kI d ([]:List (Int×Int))]:=by
 refine AC func309 ntmps309 fun g w0 R h0=> ?_
 have m:=h0.c.t7
 refine g0<|AF call117 (BG a j k b) m fun _ l=>go [rd 3 7 0 3 1 l]<|U7 call310 (LB e f i a j k b d) l fun _ o=>g0 ?_
 exact AD _ [] o.c.c.c.t7
theorem rH(b q:Nat)(f:Int):HQ 224 [pV b,iV 0] [Bl b q f] (.tuple #[bF,iV 0]) [Bl b q f]:=by
 refine AC func224 ntmps224 fun g w0 R h0=> ?_
 obtain⟨c,j,cl12,o,p,l,s,t,u⟩:=FL h0
 have x:sat g _ (Cl b [pV c,pV j,pV cl12,iV 256] 170::_):=u
 refine g0<|nP 77 [pV b] x (fun y _ z=> ?_)
 refine nP 3 [iV 0] z (fun A _ B=> ?_)
 refine g0<|nP 4 [bF] B (fun C _ D=> ?_)
 refine sA [bF] D fun _ k=> ?_
 have E:=k.i.i.e.e.e.e.t11
 refine go [rd 2 0 2 0 1 k,rd 2 1 1 0 1 k]<|U7 call309 (Q8 b y A C c j cl12 l) E fun G m=>go [rd 3 0 0 0 1 m] ?_
 have F:sat g _ (Bl b q f::_):=C4 b q f c j cl12 o p l s t m.e.e.i.i.i.i.i.t11
 exact AD _ [] F.d.a.t2
theorem aS(r b ar yc rq n m:Nat)(zz yy:Int)(q:Nat)(mq bt ba cp fi:Int)(tb wd qo lk:Nat)(S S3:Ts)(dg:Int)(hA:(bV S 0).d=(1,0,dg))(hB:(Aa S.E 0).isSome=true)(_:0≤dg-1)(_:0≤ -dg+4294967295)(_:0≤(q:Int)-1)(_:0≤ -(q:Int)+64):wQ prog 296 [pV r] 1 (fun _=> [.agg #[iV 1,iV 0,uV dg]]) (fun _=> [Cl r [pV b] 55,AU b ar yc rq n m zz yy q mq bt ba cp fi tb wd qo lk,rG rq q,TW tb 256 S]) (Bk [Cl r [pV b] 55,AU b ar yc rq n m zz yy q mq bt ba cp fi tb wd qo lk,F1 rq q,TW tb 256 S] [Cl r [pV b] 55,AU b ar yc rq n m zz yy q mq bt ba cp fi tb wd qo lk,rG rq q,TW tb 256 S3]):=by
 refine zP func296 ntmps296 fun g w0 R k_ J_ E_ hY h0=> ?_
 have i:sat g _ (J_ 0::_):=h0
 have o:=i.c.t6
 refine go [rd 0 0 1 0 1 i,rd 0 4 2 2 1 i]<|cP call297 (iX rq q) o ?_
 rintro v K _ (⟨f11,rfl,rfl⟩) p
 have j:=B3 p
 refine g0<|DS 3 ?_
 have t:=j.d.t6
 refine go [rd 3 0 2 0 1 j,rd 3 3 3 13 1 j]<|AF call298 (zF tb 256 S 0 0 dg hA hB) t fun _ u=>g0<|nP 39 [iV 0,iV 0,uV 0] u (fun x _ y=> ?_)
 refine sA [iV 1,iV 0,uV dg] y fun J l=>go [.s 4 99999] ?_
 refine Wy 4 ?_
 have z:sat g _ (rG rq q::_):=I3 rq q f11 l.b.t7
 have A:=z.b.a.e.e.e.t7
 refine go [rd 4 3 0 0 3 l] ?_
 refine yY 4 (args:= [.agg #[iV 1,iV 0,uV dg]]) (xa:=(fun _=> [.agg #[iV 1,iV 0,uV dg]]) 0) rfl (hY 0 om _ [Cl x [iV 1,iV 0,uV dg] 39,R] A) ?_ ?_
 ·
  intro L B
  have C:sat g _ (J_ 1::_):=B
  have M:=(by omega:0<1)
  refine g0 ?_
  obtain⟨f32,D⟩:=LA C.c.t7
  have k:sat g _ (Bl rq q f32::_):=D
  refine go [rd 2 0 2 0 1 k,rd 2 4 3 2 1 k]<|AF call297 (Uq rq q f32) k fun N F=>g0<|Bm<|g0<|up<|g0 ?_
  have G:sat g _ (rG rq q::_):=I3 rq q f32 F
  exact en (.tuple #[]) [] ⟨⟨_,rfl⟩,.inl G.f.e.b.e.e.e.t7.t6⟩
 intro O H
 have I:sat g _ (E_ 0::_):=H
 have P:=(by omega:0<1)
 refine g0<|up<|g0 ?_
 exact en (.tuple #[]) [] ⟨⟨_,rfl⟩,.inr ⟨0,om,I.b.a.t3.t2⟩⟩
theorem L5(t:Nat)(e:Int)(j k:Nat)(x:Int)(s:Nat)(u:Wst)(y z A B:Nat)(C D E F G H I:Int)(l J L:Nat)(m:Ts)(f:Int)(i:Ts)(o p:Int)(q:List UInt8)(M:Ts)(N:Ba m (1,0,e)=0)(O:(CR m (1,0,e)).num=f)(P:EC m (1,0,e)=true)(Q:Dw m (1,0,e)=i)(S:AZ i f=⟨(1,o,p),1,0,0,0,q⟩)(T:nE i f=0)(U:CS i f ⟨(1,o,p),2,3,0,0,q⟩=0)(V:Cc i f ⟨(1,o,p),2,3,0,0,q⟩=M)(W:u.now=0)(_:0≤e)(_:0≤ -e+4294967295)(_:0≤o)(_:0≤ -o+63)(_:0≤p-1)(_:0≤ -p+4294967295)(_:0≤(Ag q))(_:0≤ -(Ag q)):HQ 212 [pV t,.agg #[iV 1,iV 0,uV e],iV 3] [Bl j k x,Wd s u,AU t y z j A B C D k E F G H I l s J L,TW l 256 m] (iV 0) [Bl j k x,Wd s u,AU t y z j A B C D k E F G H I l s J L,TW l 256 M]:=by
 refine AC func212 ntmps212 fun g w0 R h0=>g0<|nP 39 [iV 1,iV 0,uV e] h0 (fun _ _ Z=> ?_)
 refine g0<|dw (AE [0,1,2,3,4,5,6] (Tr.an 7 Tr.nil)) Z fun _ X=> ?_
 have aa:=X.a.t6
 refine go [rd 1 4 3 2 1 X,rd 1 6 0 1 1 X]<|BZ call224 (rH j k x) aa fun _ ab=>⟨kd [],?_⟩
 refine g0<|dw (AE [0,1,2,3,4] (Tr.an 5 (AE [6,7,8,9,10,11,12] Tr.nil))) ab fun _ Y=> ?_
 have ac:=Y.d.t6
 refine go [rd 2 3 3 13 1 Y,rd 2 4 1 0 3 Y]<|BZ call288 (Z8 l 256 m 0 e f i N O P Q om om) ac fun _ ad=>⟨kd [],?_⟩
 have ae:=ad.c.a.d.t6
 refine g0<|IM call225 (qU t y z j A B C D k E F G H I l s J L q i M u o p f S T U V W om om om om om om) ae fun _ af=>g0 ?_
 exact AD _ [] af.b.c.t6.e.d.d.d.d.t5
theorem rI(b ar yc rq n m:Nat)(zz yy:Int)(q:Nat)(mq bt ba cp fi:Int)(tb wd qo lk:Nat)(S S2 S3 S4:Ts)(W W2:Wst)(E E2:E3)(L:List UInt8)(tz nz oz og dg:Int)(hA:(bV S 0).d=(1,0,dg))(hB:(Aa S.E 0).isSome=true)(hF:Ba S (1,0,dg)=0)(hN:(CR S (1,0,dg)).num=nz)(hL:EC S (1,0,dg)=true)(hS1:Dw S (1,0,dg)=S2)(hG:AZ S2 nz=⟨(1,oz,og),1,0,0,0,L⟩)(hE:nE S2 nz=0)(hX:CS S2 nz ⟨(1,oz,og),2,3,0,0,L⟩=0)(hY:Cc S2 nz ⟨(1,oz,og),2,3,0,0,L⟩=S3)(hW:W.now=0)(hd:Bo S3 W.now bt= [nz])(hr:FK (⟨bt,ba,cp⟩:Cf) W.now (S3,W) [nz])(hp:EX (⟨bt,ba,cp⟩:Cf) W.now (S3,W) [nz]=(S4,W2))(ha:D4 (⟨bt,ba,cp⟩:Cf) W.now (S3,W) [nz]= [(⟨0,(1,oz,og),3,1⟩:At)])(hT:Aa E (1,oz,og)=some (L, -1,0,0,2))(hU:Au E (1,oz,og) (L,tz,0,3,3)=E2)(_:0≤bt-1)(_:0≤ -bt+64)(_:0≤ba-1)(_:0≤cp-ba)(_:0≤ -cp+1048576)(_:0≤mq-1)(_:0≤dg-1)(_:0≤ -dg+4294967295)(_:0≤oz)(_:0≤ -oz+63)(_:0≤og-1)(_:0≤ -og+4294967295)(_:0≤(Ag L))(_:0≤ -(Ag L))(_:0≤tz)(_:0≤ -tz+9999)(_:0≤(q:Int)-1)(_:0≤ -(q:Int)+64)(_:0≤(S4.R.length:Int)-(((AT S4.R 3).length:Nat):Int)):HT prog 143 [pV b] [AU b ar yc rq n m zz yy q mq bt ba cp fi tb wd qo lk,F1 rq q,TW tb 256 S,Wd wd W,Cl qo [iV mq,pO] 191,Bj lk tz E] (fun v K=> ∃z9:Int,∃p:Option Addr,∃c:Nat,v= .tuple #[.slice p 1 c,iV 0]∧K= [AU b ar yc rq n m zz yy q mq bt ba cp fi tb wd qo lk,Bl rq q z9,TW tb 256 S4,Wd wd W2,Cl qo [iV mq,pO] 191,Bj lk (tz+1) E2,Sl 50 6 p 1 c (fl DM [(⟨0,(1,oz,og),3,1⟩:At)])]):=by
 refine AC func143 ntmps143 fun g w0 R h0=>g0<|nP 55 [pV b] h0 (fun z _ H=> ?_)
 have M:=H.a.t8
 refine go [rd 1 0 0 0 1 H]<|AF call23 (Ae b ar yc rq n m zz yy q mq bt ba cp fi tb wd qo lk) M fun _ I=>go [rd 3 0 1 0 1 I]<|cP call216 (Ev b) I ?_
 rintro v K _ (⟨O,rfl,rfl⟩) P
 have Q:=(B3 P).e.c.t9
 refine g0 ?_
 refine wR (N:=1) (fun i rb_=>([(4,pV rb_),(14,.agg #[iV 1,iV 0,uV dg])]:Fr)) (fun i rb_ K=>K= [Cl rb_ [iV 1,iV 0,uV dg] 39,Cl z [pV b] 55,Wd wd W]) (fun i K=>K= [Cl z [pV b] 55,Wd wd W]) (fun c _ K=>False) call296 (aS O b ar yc rq n m zz yy q mq bt ba cp fi tb wd qo lk S S3 dg hA hB om om om om) rfl Q ?_ ?_ ?_ ?_
 ·
  rintro i hi_ lp_ aw K_ G rfl T
  have U:sat g _ (Cl z [pV b] 55::_):=T
  refine g0<|nP 39 [iV 0,iV 0,uV 0] U (fun V _ X=> ?_)
  refine sA [iV 1,iV 0,uV dg] X fun _ Y=>g0 ?_
  exact tK V rfl Y
 ·
  rintro i ax lp_ ay rb_ K_ G rfl Z
  have aa:sat g _ (Cl rb_ [iV 1,iV 0,uV dg] 39::_):=Z
  obtain⟨f34,ab⟩:=LA aa.e.t8
  have A:sat g _ (Bl rq q f34::_):=ab
  have ac:=A.f.f.e.c.t8
  refine go [rd 5 0 2 0 1 A,rd 5 1 1 0 3 A]<|IL call212 (L5 b dg rq q f34 wd W ar yc n m zz yy mq bt ba cp fi tb qo lk S nz S2 oz og L S3 hF hN hL hS1 hG hE hX hY hW om om om om om om om om) ac fun az ad=>g0 ?_
  have ae:sat g _ (rG rq q::_):=I3 rq q f34 ad
  exact bU rfl ae.x.d.b.d.x.e.x.t8.t7
 ·
  rintro D43 bb K_ rfl af
  have ag:sat g _ (pt D43 (Obj.deferred (some []))::_):=af
  refine g0<|dw (AE [0,1,2,3,4,5,6,7,8,9,10,11] (Tr.an 12 (AE [13,14,15,16,17] Tr.nil))) ag fun _ o=> ?_
  have ah:=o.b.f.t10
  refine go [rd 6 0 1 0 1 o,rd 6 3 4 13 1 o,rd 6 4 1 0 1 o,rd 6 7 4 14 1 o,rd 6 8 1 0 1 o,rd 6 11 4 3 10 o]<|cG call217 (lJ tb 256 wd S3 W (n:Int) (m:Int) zz yy (q:Int) mq bt ba cp fi nz oz og 3 S4 W2 hd hr hp ha om om om om om) ah ?_
  rintro v K _ (⟨B,C,rfl,rfl⟩) ai
  have J:=MG ai
  refine⟨kd [],?_⟩
  refine go [.v 7 1 (oJ .i64 (1:Int) 1)]<|DS 39 ?_
  obtain⟨D,t⟩:=Av (j:=2) J rfl om
  refine go [.s 9 0]<|AS (pV D) (Ft (Ot 34) (Ot 36) B D 0 0 1 C underlying44 6 0 t 0) ?_
  have l:=J.b.t11
  have bc:=Ca BW dc l
  refine go [.r 9 1 D 0 [iV 0,iV 1,iV oz,uV og,iV 3,iV 1] ⟨CM 0 l rfl t BW 0 (iV 0) (show ([(⟨0,(1,oz,og),3,1⟩:At)]:List At)[0]? =some (⟨0,(1,oz,og),3,1⟩:At) from rfl) 0,CM 0 l rfl t BW 1 (iV 1) (show ([(⟨0,(1,oz,og),3,1⟩:At)]:List At)[0]? =some (⟨0,(1,oz,og),3,1⟩:At) from rfl) 1,CM 0 l rfl t BW 2 (iV oz) (show ([(⟨0,(1,oz,og),3,1⟩:At)]:List At)[0]? =some (⟨0,(1,oz,og),3,1⟩:At) from rfl) 2,CM 0 l rfl t BW 3 (uV og) (show ([(⟨0,(1,oz,og),3,1⟩:At)]:List At)[0]? =some (⟨0,(1,oz,og),3,1⟩:At) from rfl) 3,CM 0 l rfl t BW 4 (iV 3) (show ([(⟨0,(1,oz,og),3,1⟩:At)]:List At)[0]? =some (⟨0,(1,oz,og),3,1⟩:At) from rfl) 4,CM 0 l rfl t BW 5 (iV 1) (show ([(⟨0,(1,oz,og),3,1⟩:At)]:List At)[0]? =some (⟨0,(1,oz,og),3,1⟩:At) from rfl) 5,trivial⟩]<|nP 50 [iV 0,iV 0,iV 0,uV 0,iV 0,iV 0] l (fun bd _ aj=> ?_)
  refine sA [iV 0,iV 1,iV oz,uV og,iV 3,iV 1] aj fun _ ak=>g0<|dw (AE [0,1,2,3,4] (Tr.an 5 Tr.nil)) ak fun _ u=> ?_
  have al:=u.j.t12
  refine go [rd 10 0 5 0 1 u,rd 10 3 7 16 1 u,rd 10 4 0 0 6 u]<|BZ call218 (lF lk tz E oz og 3 L E2 hT hU om om om om om om om om) al fun _ am=>⟨kd [],?_⟩
  refine g0<|Bm<|g0<|up<|g0<|dw (AE [0,1,2,3,4] (Tr.an 5 (Tr.an 6 Tr.nil))) am fun _ y=> ?_
  have ao:=y.c.h.t12
  refine go [rd 12 0 6 0 1 y,rd 12 3 8 15 1 y,rd 12 4 6 0 1 y]<|FN call220 (K7 b ar yc rq n m zz yy q mq bt ba cp fi tb wd qo lk S4) ao fun _ F=>⟨kd [rd 0 3 0 15 1 F,rd 0 0 7 0 1 F],?_⟩
  refine BZ call219 (K5 qo mq ((S4.R.length:Int)-(((AT S4.R 3).length:Nat):Int)) om om) F.j.t12 fun be ap=>⟨kd [],?_⟩
  refine g0 ?_
  obtain⟨f78,aq⟩:=LA ap.j.t12
  have au:sat g _ (Bl rq q f78::_):=aq
  refine LM (.tuple #[.slice B 1 C,iV 0]) au.h.t12 (fun _ _=> []) (fun _ av=> ?_) [] []
  exact⟨_,_,rfl,⟨f78,B,C,rfl,rfl⟩,av.x.f.d.h.x.f.x.t12.k.x.x.x.x.x.x.x.t8⟩
 · intro _ _ _ _ _ _ hf_;exact hf_.elim
theorem wS(b:Nat):HT prog 113 [pV b] [Cl b ([bT,iV 0]++(List.replicate 32 [iV 0,uV 0]).flatten) 244] (fun v K=> ∃r:Nat,v=pV r∧K= [Cl b ([bT,iV 0]++(List.replicate 32 [iV 0,uV 0]).flatten) 244]):=by
 refine AC func113 ntmps113 fun g w0 R h0=>g0<|AF call174 (Em b 0 0) h0 fun _ c=>go [rd 3 2 0 0 66 c]<|nP 244 ([bF,iV 0]++(List.replicate 32 [iV 0,uV 0]).flatten) c (fun d _ e=> ?_)
 refine sP [(0,bT),(1,iV 0),(2,iV 0),(3,uV 0),(4,iV 0),(5,uV 0),(6,iV 0),(7,uV 0),(8,iV 0),(9,uV 0),(10,iV 0),(11,uV 0),(12,iV 0),(13,uV 0),(14,iV 0),(15,uV 0),(16,iV 0),(17,uV 0),(18,iV 0),(19,uV 0),(20,iV 0),(21,uV 0),(22,iV 0),(23,uV 0),(24,iV 0),(25,uV 0),(26,iV 0),(27,uV 0),(28,iV 0),(29,uV 0),(30,iV 0),(31,uV 0),(32,iV 0),(33,uV 0),(34,iV 0),(35,uV 0),(36,iV 0),(37,uV 0),(38,iV 0),(39,uV 0),(40,iV 0),(41,uV 0),(42,iV 0),(43,uV 0),(44,iV 0),(45,uV 0),(46,iV 0),(47,uV 0),(48,iV 0),(49,uV 0),(50,iV 0),(51,uV 0),(52,iV 0),(53,uV 0),(54,iV 0),(55,uV 0),(56,iV 0),(57,uV 0),(58,iV 0),(59,uV 0),(60,iV 0),(61,uV 0),(62,iV 0),(63,uV 0),(64,iV 0),(65,uV 0)] ([bT,iV 0]++(List.replicate 32 [iV 0,uV 0]).flatten) e fun _ f=>g0 ?_
 exact en _ [] ⟨_,_,rfl,⟨d,rfl,rfl⟩,f.a.t3.b.a.t2⟩
theorem wT(b:Nat)(rs rg:Int):HT prog 113 [pV b] [Cl b ([bT,iV 0,iV rs,uV rg]++(List.replicate 31 [iV 0,uV 0]).flatten) 244] (fun v K=> ∃r:Nat,v=pV r∧K= [Cl b ([bT,iV 0,iV rs,uV rg]++(List.replicate 31 [iV 0,uV 0]).flatten) 244]):=by
 refine AC func113 ntmps113 fun g w0 R h0=>g0<|AF call174 (Em b rs rg) h0 fun _ c=>go [rd 3 2 0 0 66 c]<|nP 244 ([bF,iV 0]++(List.replicate 32 [iV 0,uV 0]).flatten) c (fun d _ e=> ?_)
 refine sP [(0,bT),(1,iV 0),(2,iV rs),(3,uV rg),(4,iV 0),(5,uV 0),(6,iV 0),(7,uV 0),(8,iV 0),(9,uV 0),(10,iV 0),(11,uV 0),(12,iV 0),(13,uV 0),(14,iV 0),(15,uV 0),(16,iV 0),(17,uV 0),(18,iV 0),(19,uV 0),(20,iV 0),(21,uV 0),(22,iV 0),(23,uV 0),(24,iV 0),(25,uV 0),(26,iV 0),(27,uV 0),(28,iV 0),(29,uV 0),(30,iV 0),(31,uV 0),(32,iV 0),(33,uV 0),(34,iV 0),(35,uV 0),(36,iV 0),(37,uV 0),(38,iV 0),(39,uV 0),(40,iV 0),(41,uV 0),(42,iV 0),(43,uV 0),(44,iV 0),(45,uV 0),(46,iV 0),(47,uV 0),(48,iV 0),(49,uV 0),(50,iV 0),(51,uV 0),(52,iV 0),(53,uV 0),(54,iV 0),(55,uV 0),(56,iV 0),(57,uV 0),(58,iV 0),(59,uV 0),(60,iV 0),(61,uV 0),(62,iV 0),(63,uV 0),(64,iV 0),(65,uV 0)] ([bT,iV 0,iV rs,uV rg]++(List.replicate 31 [iV 0,uV 0]).flatten) e fun _ f=>g0 ?_
 exact en _ [] ⟨_,_,rfl,⟨d,rfl,rfl⟩,f.a.t3.b.a.t2⟩
theorem M2(x j:Nat)(ps:List Nat)(hp:ps[j]? =some x):HT prog 113 [pV x] [Bs ([bT,iV 0]++(List.replicate 32 [iV 0,uV 0]).flatten) 244 ps] (fun v K=> ∃r:Nat,v=pV r∧K= [Bs ([bT,iV 0]++(List.replicate 32 [iV 0,uV 0]).flatten) 244 ps]):=by
 have h:=UT (Q:=fun v=> ∃r:Nat,v=pV r) (i:=j) ((wS x).post (by rintro v K ⟨r,rfl,rfl⟩;exact⟨_,⟨⟨r,rfl⟩,rfl⟩,fun _ _ _ h=>h⟩)) hp
 exact h.post (by rintro v K ⟨⟨r,rfl⟩,rfl⟩;exact⟨_,⟨r,rfl,rfl⟩,fun _ _ _ h=>h⟩)
theorem Oo(a b c d e:Nat)(f i j:Value)(k:Nat):HQ 110 [pV a] [Cl a [pV b,iV c,iV d,pV e,f,i,j,pV k] 149] (bT) [Cl a [pV b,iV c,iV d,pV e,f,i,j,pV k] 149]:=by
 refine AC func110 ntmps110 fun g w0 R l=>go [rd 1 6 0 0 1 l] ?_
 exact AD _ [] l
theorem JQ(b:Nat):HT prog 112 [pV b] [Cl b [bT,iV 0,uV 0,iV 0,uV 0,iV 0,uV 0,iV 0,uV 0,iV 0,uV 0,iV 0,uV 0,iV 0,uV 0,iV 0,uV 0] 241] (fun v K=> ∃c:Nat,v=pV c∧K= [Cl b [bT,iV 0,uV 0,iV 0,uV 0,iV 0,uV 0,iV 0,uV 0,iV 0,uV 0,iV 0,uV 0,iV 0,uV 0,iV 0,uV 0] 241,Cl c [bT,iV 0,uV 0,iV 0,uV 0,iV 0,uV 0,iV 0,uV 0,iV 0,uV 0,iV 0,uV 0,iV 0,uV 0,iV 0,uV 0] 241]):=by
 refine AC func112 ntmps112 fun g w0 R d=>go [rd 1 6 0 0 1 d,rd 3 2 0 0 17 d]<|nP 241 [bF,iV 0,uV 0,iV 0,uV 0,iV 0,uV 0,iV 0,uV 0,iV 0,uV 0,iV 0,uV 0,iV 0,uV 0,iV 0,uV 0] d (fun c _ e=> ?_)
 refine sA [bT,iV 0,uV 0,iV 0,uV 0,iV 0,uV 0,iV 0,uV 0,iV 0,uV 0,iV 0,uV 0,iV 0,uV 0,iV 0,uV 0] e fun _ f=>g0 ?_
 exact en _ [] ⟨_,_,rfl,⟨c,rfl,rfl⟩,f.a.t3⟩
theorem zQ(ar n m:Nat)(A:List AM):HT prog 44 [pV ar] [B2 ar n m A] (fun v K=> ∃r:Nat,v=pV r∧K= [B2 ar n m A]):=by
 refine AC func44 ntmps44 fun g w0 R h0=> ?_
 obtain⟨q,y,B,p,o,e,t,u,C,D,E,F,G,be⟩:=ER h0
 have bf:sat g _ (Cl ar [pV q,iV n,iV m,pV o,sp e 0,sp e 1,sp e 2,pV p] 149::_):=be
 refine g0<|AF call110 (Oo ar q n m o (sp e 0) (sp e 1) (sp e 2) p) bf fun _ ad=>go [rd 3 2 0 0 8 ad]<|nP 149 [pO,iV 0,iV 0,pO,pO,pO,pO,pO] ad (fun l _ bg=> ?_)
 refine sA [pV q,iV n,iV m,pV o,sp e 0,sp e 1,sp e 2,pV p] bg fun _ bh=>g0<|dw (AE [0,1,2,3,4,5,6,10,11,12,13] (Tr.an 7 (Tr.fl 8 (Tr.an2 9 (Tr.an 14 (Tr.fl 15 (Tr.an 16 (Tr.fl 17 (Tr.an 18 Tr.nil))))) 14 (Tr.an 9 (Tr.fl 15 (Tr.an 16 (Tr.fl 17 (Tr.an 18 Tr.nil))))))))) bh fun _ O=> ?_
 have bi:=O.d.d.t9
 refine go [rd 4 3 1 0 1 O,rd 4 6 2 0 1 O,rd 4 13 1 7 1 O]<|cG call111 (Ka y n B A om om) bi ?_
 rintro v K _ (⟨ae,dd,rfl,rfl⟩) bj
 have S:=Wx bj
 refine⟨kd [rd 0 13 5 7 1 S],?_⟩
 refine g0 ?_
 refine IN ?_ ?_
 ·
  refine nG (fun q_=>pV q_) 143 [pV ae] S (fun H _ af=>⟨kd [rd 0 13 6 7 1 af],?_⟩)
  refine cG call112 (JQ p) af.h.t12 ?_
  rintro v K _ (⟨J,rfl,rfl⟩) bk
  have bl:=CW bk
  refine⟨kd [],?_⟩
  have bm:=bl.x.t13
  refine g0<|sG [(0,pV H)] [pV H,iV n,iV m,pV o,sp e 0,sp e 1,sp e 2,pV p] bm fun _ bn=>⟨kd [],?_⟩
  refine g0<|sG [(7,pV J)] [pV H,iV n,iV m,pV o,sp e 0,sp e 1,sp e 2,pV J] bn fun _ T=>⟨kd [],?_⟩
  refine go [rd 5 3 8 2 1 T]<|DS 39<|go [.v 6 0 (oT (0<(m:Int))),.s 8 5]<|AS (.pointer (some ⟨ar,3,none⟩)) (AA (x:=Ot 39) (i:=Ot 37) (b:=ar) (off:=3) (z:=0) kr underlying147 1 kr 0 kr kr om om 3 om _) ?_
  have bo:=T.j.t13
  refine go [rd 8 6 8 3 1 T]<|cP call113 (wT o t u) bo ?_
  rintro v K _ (⟨M,rfl,rfl⟩) bp
  have bq:=B3 bp
  refine go [.s 8 9]<|AS (.pointer (some ⟨l,3,none⟩)) (AA (x:=Ot 43) (i:=Ot 35) (b:=l) (off:=3) (z:=0) kr underlying147 1 kr 0 kr kr om om 3 om _)<|sP [(3,pV M)] [pV H,iV n,iV m,pV M,sp e 0,sp e 1,sp e 2,pV J] bq.a.t13 fun de U=>g0<|Bm<|go [.s 6 0] ?_
  by_cases ag:1<(m:Int);rotate_left
  ·
   refine go [.v 6 0 (oF _ ag)]<|up<|g0 ?_
   have br:sat g _ (B2 ar n m A::_):=BQ ar n m A q y B p o e t u C D E F G U.k.b.c.x.x.k.k.t13
   exact en _ [] ⟨_,_,rfl,⟨l,rfl,rfl⟩,br.f.a.t2⟩
  refine go [.v 6 0 (oT _ ag),.s 8 5]<|AS (.pointer (some ⟨ar,4,none⟩)) (AA (x:=Ot 39) (i:=Ot 37) (b:=ar) (off:=3) (z:=1) kr underlying147 1 kr 1 kr kr om om 4 om _) ?_
  obtain⟨ah,ai⟩: ∃b,e[0]? =some b:=⟨_,List.getElem?_eq_getElem om⟩
  have bs:=U.k.t13
  refine go [.r 8 6 ar 4 [pV ah] ⟨AL U 9 rfl (congrArg some (Fh ai)),trivial⟩]<|cP call113 (M2 ah 0 e ai) bs ?_
  rintro v K _ (⟨P,rfl,rfl⟩) bt
  have bu:=B3 bt
  refine go [.s 8 9]<|AS (.pointer (some ⟨l,4,none⟩)) (AA (x:=Ot 43) (i:=Ot 35) (b:=l) (off:=3) (z:=1) kr underlying147 1 kr 1 kr kr om om 4 om _)<|sP [(4,pV P)] [pV H,iV n,iV m,pV M,pV P,sp e 1,sp e 2,pV J] bu.a.t13 fun df V=>g0<|Bm<|go [.s 6 0] ?_
  by_cases aj:2<(m:Int);rotate_left
  ·
   refine go [.v 6 0 (oF _ aj)]<|up<|g0 ?_
   have bv:sat g _ (B2 ar n m A::_):=BQ ar n m A q y B p o e t u C D E F G V.a.b.c.x.x.k.k.t13
   exact en _ [] ⟨_,_,rfl,⟨l,rfl,rfl⟩,bv.f.a.t2⟩
  refine go [.v 6 0 (oT _ aj),.s 8 5]<|AS (.pointer (some ⟨ar,5,none⟩)) (AA (x:=Ot 39) (i:=Ot 37) (b:=ar) (off:=3) (z:=2) kr underlying147 1 kr 2 kr kr om om 5 om _) ?_
  obtain⟨ak,al⟩: ∃b,e[1]? =some b:=⟨_,List.getElem?_eq_getElem om⟩
  have bw:=V.a.t13
  refine go [.r 8 6 ar 5 [pV ak] ⟨AL V 10 rfl (congrArg some (Fh al)),trivial⟩]<|cP call113 (M2 ak 1 e al) bw ?_
  rintro v K _ (⟨W,rfl,rfl⟩) bx
  have bz:=B3 bx
  refine go [.s 8 9]<|AS (.pointer (some ⟨l,5,none⟩)) (AA (x:=Ot 43) (i:=Ot 35) (b:=l) (off:=3) (z:=2) kr underlying147 1 kr 2 kr kr om om 5 om _)<|sP [(5,pV W)] [pV H,iV n,iV m,pV M,pV P,pV W,sp e 2,pV J] bz.a.t13 fun dg X=>g0<|Bm<|go [.s 6 0] ?_
  by_cases am:3<(m:Int)
  ·
   refine go [.v 6 0 (oT _ am),.s 8 5]<|AS (.pointer (some ⟨ar,6,none⟩)) (AA (x:=Ot 39) (i:=Ot 37) (b:=ar) (off:=3) (z:=3) kr underlying147 1 kr 3 kr kr om om 6 om _) ?_
   obtain⟨ao,ap⟩: ∃b,e[2]? =some b:=⟨_,List.getElem?_eq_getElem om⟩
   have ca:=X.a.t13
   refine go [.r 8 6 ar 6 [pV ao] ⟨AL X 10 rfl (congrArg some (Fh ap)),trivial⟩]<|cP call113 (M2 ao 2 e ap) ca ?_
   rintro v K _ (⟨aq,rfl,rfl⟩) cb
   have cc:=B3 cb
   refine go [.s 8 9]<|AS (.pointer (some ⟨l,6,none⟩)) (AA (x:=Ot 43) (i:=Ot 35) (b:=l) (off:=3) (z:=3) kr underlying147 1 kr 3 kr kr om om 6 om _)<|sP [(6,pV aq)] [pV H,iV n,iV m,pV M,pV P,pV W,pV aq,pV J] cc.a.t13 fun dh cd=>g0<|Bm<|go [.v 6 0 (oF (4<(m:Int)))]<|up<|g0 ?_
   have ce:sat g _ (B2 ar n m A::_):=BQ ar n m A q y B p o e t u C D E F G cd.a.b.c.x.x.k.k.t13
   exact en _ [] ⟨_,_,rfl,⟨l,rfl,rfl⟩,ce.f.a.t2⟩
  refine go [.v 6 0 (oF _ am)]<|up<|g0 ?_
  have cf:sat g _ (B2 ar n m A::_):=BQ ar n m A q y B p o e t u C D E F G X.a.b.c.x.x.k.k.t13
  exact en _ [] ⟨_,_,rfl,⟨l,rfl,rfl⟩,cf.f.a.t2⟩
 refine cG call112 (JQ p) S.x.t11 ?_
 rintro v K _ (⟨L,rfl,rfl⟩) cg
 have ch:=CW cg
 refine⟨kd [],?_⟩
 refine nG (fun q_=>pV q_) 143 [pV ae] ch (fun I _ ci=>⟨kd [],?_⟩)
 have cj:=ci.x.t13
 refine g0<|sG [(0,pV I)] [pV I,iV n,iV m,pV o,sp e 0,sp e 1,sp e 2,pV p] cj fun _ ck=>⟨kd [],?_⟩
 refine g0<|sG [(7,pV L)] [pV I,iV n,iV m,pV o,sp e 0,sp e 1,sp e 2,pV L] ck fun _ Y=>⟨kd [],?_⟩
 refine go [rd 5 3 8 2 1 Y]<|DS 39<|go [.v 6 0 (oT (0<(m:Int))),.s 8 5]<|AS (.pointer (some ⟨ar,3,none⟩)) (AA (x:=Ot 39) (i:=Ot 37) (b:=ar) (off:=3) (z:=0) kr underlying147 1 kr 0 kr kr om om 3 om _) ?_
 have cl:=Y.j.t13
 refine go [rd 8 6 8 3 1 Y]<|cP call113 (wT o t u) cl ?_
 rintro v K _ (⟨N,rfl,rfl⟩) cm
 have cn:=B3 cm
 refine go [.s 8 9]<|AS (.pointer (some ⟨l,3,none⟩)) (AA (x:=Ot 43) (i:=Ot 35) (b:=l) (off:=3) (z:=0) kr underlying147 1 kr 0 kr kr om om 3 om _)<|sP [(3,pV N)] [pV I,iV n,iV m,pV N,sp e 0,sp e 1,sp e 2,pV L] cn.a.t13 fun di Z=>g0<|Bm<|go [.s 6 0] ?_
 by_cases au:1<(m:Int)
 ·
  refine go [.v 6 0 (oT _ au),.s 8 5]<|AS (.pointer (some ⟨ar,4,none⟩)) (AA (x:=Ot 39) (i:=Ot 37) (b:=ar) (off:=3) (z:=1) kr underlying147 1 kr 1 kr kr om om 4 om _) ?_
  obtain⟨av,aw⟩: ∃b,e[0]? =some b:=⟨_,List.getElem?_eq_getElem om⟩
  have co:=Z.k.t13
  refine go [.r 8 6 ar 4 [pV av] ⟨AL Z 9 rfl (congrArg some (Fh aw)),trivial⟩]<|cP call113 (M2 av 0 e aw) co ?_
  rintro v K _ (⟨Q,rfl,rfl⟩) cp
  have cq:=B3 cp
  refine go [.s 8 9]<|AS (.pointer (some ⟨l,4,none⟩)) (AA (x:=Ot 43) (i:=Ot 35) (b:=l) (off:=3) (z:=1) kr underlying147 1 kr 1 kr kr om om 4 om _)<|sP [(4,pV Q)] [pV I,iV n,iV m,pV N,pV Q,sp e 1,sp e 2,pV L] cq.a.t13 fun dj aa=>g0<|Bm<|go [.s 6 0] ?_
  by_cases ax:2<(m:Int);rotate_left
  ·
   refine go [.v 6 0 (oF _ ax)]<|up<|g0 ?_
   have cr:sat g _ (B2 ar n m A::_):=BQ ar n m A q y B p o e t u C D E F G aa.a.b.d.x.x.k.k.t13
   exact en _ [] ⟨_,_,rfl,⟨l,rfl,rfl⟩,cr.f.a.t2⟩
  refine go [.v 6 0 (oT _ ax),.s 8 5]<|AS (.pointer (some ⟨ar,5,none⟩)) (AA (x:=Ot 39) (i:=Ot 37) (b:=ar) (off:=3) (z:=2) kr underlying147 1 kr 2 kr kr om om 5 om _) ?_
  obtain⟨ay,az⟩: ∃b,e[1]? =some b:=⟨_,List.getElem?_eq_getElem om⟩
  have cs:=aa.a.t13
  refine go [.r 8 6 ar 5 [pV ay] ⟨AL aa 10 rfl (congrArg some (Fh az)),trivial⟩]<|cP call113 (M2 ay 1 e az) cs ?_
  rintro v K _ (⟨ab,rfl,rfl⟩) ct
  have cu:=B3 ct
  refine go [.s 8 9]<|AS (.pointer (some ⟨l,5,none⟩)) (AA (x:=Ot 43) (i:=Ot 35) (b:=l) (off:=3) (z:=2) kr underlying147 1 kr 2 kr kr om om 5 om _)<|sP [(5,pV ab)] [pV I,iV n,iV m,pV N,pV Q,pV ab,sp e 2,pV L] cu.a.t13 fun dk ac=>g0<|Bm<|go [.s 6 0] ?_
  by_cases ba:3<(m:Int)
  ·
   refine go [.v 6 0 (oT _ ba),.s 8 5]<|AS (.pointer (some ⟨ar,6,none⟩)) (AA (x:=Ot 39) (i:=Ot 37) (b:=ar) (off:=3) (z:=3) kr underlying147 1 kr 3 kr kr om om 6 om _) ?_
   obtain⟨bb,bc⟩: ∃b,e[2]? =some b:=⟨_,List.getElem?_eq_getElem om⟩
   have cv:=ac.a.t13
   refine go [.r 8 6 ar 6 [pV bb] ⟨AL ac 10 rfl (congrArg some (Fh bc)),trivial⟩]<|cP call113 (M2 bb 2 e bc) cv ?_
   rintro v K _ (⟨bd,rfl,rfl⟩) cw
   have cx:=B3 cw
   refine go [.s 8 9]<|AS (.pointer (some ⟨l,6,none⟩)) (AA (x:=Ot 43) (i:=Ot 35) (b:=l) (off:=3) (z:=3) kr underlying147 1 kr 3 kr kr om om 6 om _)<|sP [(6,pV bd)] [pV I,iV n,iV m,pV N,pV Q,pV ab,pV bd,pV L] cx.a.t13 fun dl cy=>g0<|Bm<|go [.v 6 0 (oF (4<(m:Int)))]<|up<|g0 ?_
   have cz:sat g _ (B2 ar n m A::_):=BQ ar n m A q y B p o e t u C D E F G cy.a.b.d.x.x.k.k.t13
   exact en _ [] ⟨_,_,rfl,⟨l,rfl,rfl⟩,cz.f.a.t2⟩
  refine go [.v 6 0 (oF _ ba)]<|up<|g0 ?_
  have da:sat g _ (B2 ar n m A::_):=BQ ar n m A q y B p o e t u C D E F G ac.a.b.d.x.x.k.k.t13
  exact en _ [] ⟨_,_,rfl,⟨l,rfl,rfl⟩,da.f.a.t2⟩
 refine go [.v 6 0 (oF _ au)]<|up<|g0 ?_
 have db:sat g _ (B2 ar n m A::_):=BQ ar n m A q y B p o e t u C D E F G Z.k.b.d.x.x.k.k.t13
 exact en _ [] ⟨_,_,rfl,⟨l,rfl,rfl⟩,db.f.a.t2⟩
theorem wU(b:Nat)(yy:Int)(_:0≤yy-1)(_:0≤ -yy+64):HT prog 178 [pV b] [Cl b (List.replicate 64 (iV 0)++ [iV yy,iV 0,iV 0,bT]) 346] (fun v K=> ∃r:Nat,v=pV r∧K= [Cl b (List.replicate 64 (iV 0)++ [iV yy,iV 0,iV 0,bT]) 346]):=by
 refine AC func178 ntmps178 fun g w0 R h0=>g0<|AF call248 (GM b yy om) h0 fun _ c=>go [rd 3 2 0 0 68 c]<|nP 346 (List.replicate 67 (iV 0)++ [bF]) c (fun d _ e=> ?_)
 refine sP [(0,iV 0),(1,iV 0),(2,iV 0),(3,iV 0),(4,iV 0),(5,iV 0),(6,iV 0),(7,iV 0),(8,iV 0),(9,iV 0),(10,iV 0),(11,iV 0),(12,iV 0),(13,iV 0),(14,iV 0),(15,iV 0),(16,iV 0),(17,iV 0),(18,iV 0),(19,iV 0),(20,iV 0),(21,iV 0),(22,iV 0),(23,iV 0),(24,iV 0),(25,iV 0),(26,iV 0),(27,iV 0),(28,iV 0),(29,iV 0),(30,iV 0),(31,iV 0),(32,iV 0),(33,iV 0),(34,iV 0),(35,iV 0),(36,iV 0),(37,iV 0),(38,iV 0),(39,iV 0),(40,iV 0),(41,iV 0),(42,iV 0),(43,iV 0),(44,iV 0),(45,iV 0),(46,iV 0),(47,iV 0),(48,iV 0),(49,iV 0),(50,iV 0),(51,iV 0),(52,iV 0),(53,iV 0),(54,iV 0),(55,iV 0),(56,iV 0),(57,iV 0),(58,iV 0),(59,iV 0),(60,iV 0),(61,iV 0),(62,iV 0),(63,iV 0),(64,iV yy),(65,iV 0),(66,iV 0),(67,bT)] (List.replicate 64 (iV 0)++ [iV yy,iV 0,iV 0,bT]) e fun _ f=>g0 ?_
 exact en _ [] ⟨_,_,rfl,⟨d,rfl,rfl⟩,f.a.t3.b.a.t2⟩
theorem wV(x j:Nat)(yy:Int)(qs:List Nat)(hp:qs[j]? =some x)(hy:1≤yy∧yy≤64):HT prog 178 [pV x] [Bs (List.replicate 64 (iV 0)++ [iV yy,iV 0,iV 0,bT]) 346 qs] (fun v K=> ∃r:Nat,v=pV r∧K= [Bs (List.replicate 64 (iV 0)++ [iV yy,iV 0,iV 0,bT]) 346 qs]):=by
 have h:=UT (Q:=fun v=> ∃r:Nat,v=pV r) (i:=j) ((wU x yy om om).post (by rintro v K ⟨r,rfl,rfl⟩;exact⟨_,⟨⟨r,rfl⟩,rfl⟩,fun _ _ _ h=>h⟩)) hp
 exact h.post (by rintro v K ⟨⟨r,rfl⟩,rfl⟩;exact⟨_,⟨r,rfl,rfl⟩,fun _ _ _ h=>h⟩)
theorem Q9(p b:Nat)(c d:Int)(e f i j k l m o:Bool)(_:0≤(b:Int)-1):HT prog 175 [pV p] [Cl p [iV c,iV b,iV d,.bool e,.bool f,.bool i,.bool j,.bool k,.bool l,.bool m,.bool o] 340] (fun v K=> ∃q:Nat,v=pV q∧K= [Cl p [iV c,iV b,iV d,.bool e,.bool f,.bool i,.bool j,.bool k,.bool l,.bool m,.bool o] 340,Cl q [iV c,iV b,iV d,.bool e,.bool f,.bool i,.bool j,.bool k,.bool l,.bool m,.bool o] 340]):=by
 refine AC func175 ntmps175 fun g w0 R h0=>g0<|AF call232 (CB p b c d e f i j k l m o om) h0 fun _ s=>go [rd 3 2 0 0 11 s]<|nP 340 [iV 0,iV 0,iV 0,bF,bF,bF,bF,bF,bF,bF,bF] s (fun q _ t=> ?_)
 refine sA [iV c,iV b,iV d,.bool e,.bool f,.bool i,.bool j,.bool k,.bool l,.bool m,.bool o] t fun _ u=>g0 ?_
 exact en _ [] ⟨_,_,rfl,⟨q,rfl,rfl⟩,u.a.t3⟩
theorem RC(c b:Nat)(_:0≤(b:Int)-1):HT prog 176 [pV c] [Cl c ([iV b]++List.replicate 256 (yV 0)) 336] (fun v K=> ∃d:Nat,v=pV d∧K= [Cl c ([iV b]++List.replicate 256 (yV 0)) 336,Cl d ([iV b]++List.replicate 256 (yV 0)) 336]):=by
 refine AC func176 ntmps176 fun g w0 R h0=>g0<|AF call246 (DN c b om) h0 fun _ e=>go [sF 3 2 0 0 257 e]<|nP 336 ([iV 0]++List.replicate 256 (yV 0)) e (fun d _ f=> ?_)
 refine sP [(0,iV b),(1,yV 0),(2,yV 0),(3,yV 0),(4,yV 0),(5,yV 0),(6,yV 0),(7,yV 0),(8,yV 0),(9,yV 0),(10,yV 0),(11,yV 0),(12,yV 0),(13,yV 0),(14,yV 0),(15,yV 0),(16,yV 0),(17,yV 0),(18,yV 0),(19,yV 0),(20,yV 0),(21,yV 0),(22,yV 0),(23,yV 0),(24,yV 0),(25,yV 0),(26,yV 0),(27,yV 0),(28,yV 0),(29,yV 0),(30,yV 0),(31,yV 0),(32,yV 0),(33,yV 0),(34,yV 0),(35,yV 0),(36,yV 0),(37,yV 0),(38,yV 0),(39,yV 0),(40,yV 0),(41,yV 0),(42,yV 0),(43,yV 0),(44,yV 0),(45,yV 0),(46,yV 0),(47,yV 0),(48,yV 0),(49,yV 0),(50,yV 0),(51,yV 0),(52,yV 0),(53,yV 0),(54,yV 0),(55,yV 0),(56,yV 0),(57,yV 0),(58,yV 0),(59,yV 0),(60,yV 0),(61,yV 0),(62,yV 0),(63,yV 0),(64,yV 0),(65,yV 0),(66,yV 0),(67,yV 0),(68,yV 0),(69,yV 0),(70,yV 0),(71,yV 0),(72,yV 0),(73,yV 0),(74,yV 0),(75,yV 0),(76,yV 0),(77,yV 0),(78,yV 0),(79,yV 0),(80,yV 0),(81,yV 0),(82,yV 0),(83,yV 0),(84,yV 0),(85,yV 0),(86,yV 0),(87,yV 0),(88,yV 0),(89,yV 0),(90,yV 0),(91,yV 0),(92,yV 0),(93,yV 0),(94,yV 0),(95,yV 0),(96,yV 0),(97,yV 0),(98,yV 0),(99,yV 0),(100,yV 0),(101,yV 0),(102,yV 0),(103,yV 0),(104,yV 0),(105,yV 0),(106,yV 0),(107,yV 0),(108,yV 0),(109,yV 0),(110,yV 0),(111,yV 0),(112,yV 0),(113,yV 0),(114,yV 0),(115,yV 0),(116,yV 0),(117,yV 0),(118,yV 0),(119,yV 0),(120,yV 0),(121,yV 0),(122,yV 0),(123,yV 0),(124,yV 0),(125,yV 0),(126,yV 0),(127,yV 0),(128,yV 0),(129,yV 0),(130,yV 0),(131,yV 0),(132,yV 0),(133,yV 0),(134,yV 0),(135,yV 0),(136,yV 0),(137,yV 0),(138,yV 0),(139,yV 0),(140,yV 0),(141,yV 0),(142,yV 0),(143,yV 0),(144,yV 0),(145,yV 0),(146,yV 0),(147,yV 0),(148,yV 0),(149,yV 0),(150,yV 0),(151,yV 0),(152,yV 0),(153,yV 0),(154,yV 0),(155,yV 0),(156,yV 0),(157,yV 0),(158,yV 0),(159,yV 0),(160,yV 0),(161,yV 0),(162,yV 0),(163,yV 0),(164,yV 0),(165,yV 0),(166,yV 0),(167,yV 0),(168,yV 0),(169,yV 0),(170,yV 0),(171,yV 0),(172,yV 0),(173,yV 0),(174,yV 0),(175,yV 0),(176,yV 0),(177,yV 0),(178,yV 0),(179,yV 0),(180,yV 0),(181,yV 0),(182,yV 0),(183,yV 0),(184,yV 0),(185,yV 0),(186,yV 0),(187,yV 0),(188,yV 0),(189,yV 0),(190,yV 0),(191,yV 0),(192,yV 0),(193,yV 0),(194,yV 0),(195,yV 0),(196,yV 0),(197,yV 0),(198,yV 0),(199,yV 0),(200,yV 0),(201,yV 0),(202,yV 0),(203,yV 0),(204,yV 0),(205,yV 0),(206,yV 0),(207,yV 0),(208,yV 0),(209,yV 0),(210,yV 0),(211,yV 0),(212,yV 0),(213,yV 0),(214,yV 0),(215,yV 0),(216,yV 0),(217,yV 0),(218,yV 0),(219,yV 0),(220,yV 0),(221,yV 0),(222,yV 0),(223,yV 0),(224,yV 0),(225,yV 0),(226,yV 0),(227,yV 0),(228,yV 0),(229,yV 0),(230,yV 0),(231,yV 0),(232,yV 0),(233,yV 0),(234,yV 0),(235,yV 0),(236,yV 0),(237,yV 0),(238,yV 0),(239,yV 0),(240,yV 0),(241,yV 0),(242,yV 0),(243,yV 0),(244,yV 0),(245,yV 0),(246,yV 0),(247,yV 0),(248,yV 0),(249,yV 0),(250,yV 0),(251,yV 0),(252,yV 0),(253,yV 0),(254,yV 0),(255,yV 0),(256,yV 0)] ([iV b]++List.replicate 256 (yV 0)) f fun _ i=>g0 ?_
 exact en _ [] ⟨_,_,rfl,⟨d,rfl,rfl⟩,i.a.t3⟩
theorem RD(c:Nat)(b:Int)(_:0≤b-1):HT prog 177 [pV c] [Cl c ([bF,iV 0,iV b]++List.replicate 65 (iV 0)) 344] (fun v K=> ∃d:Nat,v=pV d∧K= [Cl c ([bF,iV 0,iV b]++List.replicate 65 (iV 0)) 344,Cl d ([bF,iV 0,iV b]++List.replicate 65 (iV 0)) 344]):=by
 refine AC func177 ntmps177 fun g w0 R h0=>g0<|AF call247 (Fk c b om) h0 fun _ e=>go [rd 3 2 0 0 68 e]<|nP 344 ([bF]++List.replicate 67 (iV 0)) e (fun d _ f=> ?_)
 refine sP [(0,bF),(1,iV 0),(2,iV b),(3,iV 0),(4,iV 0),(5,iV 0),(6,iV 0),(7,iV 0),(8,iV 0),(9,iV 0),(10,iV 0),(11,iV 0),(12,iV 0),(13,iV 0),(14,iV 0),(15,iV 0),(16,iV 0),(17,iV 0),(18,iV 0),(19,iV 0),(20,iV 0),(21,iV 0),(22,iV 0),(23,iV 0),(24,iV 0),(25,iV 0),(26,iV 0),(27,iV 0),(28,iV 0),(29,iV 0),(30,iV 0),(31,iV 0),(32,iV 0),(33,iV 0),(34,iV 0),(35,iV 0),(36,iV 0),(37,iV 0),(38,iV 0),(39,iV 0),(40,iV 0),(41,iV 0),(42,iV 0),(43,iV 0),(44,iV 0),(45,iV 0),(46,iV 0),(47,iV 0),(48,iV 0),(49,iV 0),(50,iV 0),(51,iV 0),(52,iV 0),(53,iV 0),(54,iV 0),(55,iV 0),(56,iV 0),(57,iV 0),(58,iV 0),(59,iV 0),(60,iV 0),(61,iV 0),(62,iV 0),(63,iV 0),(64,iV 0),(65,iV 0),(66,iV 0),(67,iV 0)] ([bF,iV 0,iV b]++List.replicate 65 (iV 0)) f fun _ i=>g0 ?_
 exact en _ [] ⟨_,_,rfl,⟨d,rfl,rfl⟩,i.a.t3⟩
theorem zR(b n m:Nat)(ph cy sn:Int):HT prog 115 [pV b] [Mr b n m ph cy sn] (fun v K=> ∃r:Nat,v=pV r∧K= [Mr b n m ph cy sn]):=by
 refine AC func115 ntmps115 fun g w0 R h0=> ?_
 obtain⟨t,u,y,p,q,A,D,O,af,ag,ah,ai,aj,ak,al,am⟩:=Bq h0
 have ao:sat g _ (Cl b [iV n,iV m,pV t,pV u,pV y,.slice p m q] 250::_):=am
 refine g0<|AF call152 (BB b n m t u y p q om) ao fun _ ap=>g0<|dw (AE [0,1,2,3,4,5,6,7,8,9,10,11,13,14,15,16,18,19,20,21] (Tr.an 12 (Tr.an 17 (Tr.an 22 (Tr.fl 23 (Tr.an 24 (Tr.fl 25 Tr.nil))))))) ap fun _ z=> ?_
 have aq:=z.a.t7
 refine go [rd 3 3 0 0 1 z,rd 3 7 0 1 1 z,rd 3 11 0 2 1 z,rd 3 16 0 3 1 z,rd 3 21 0 4 1 z]<|cG call175 (Q9 t m ph cy (decide (0<sn)) (decide (1<sn)) (decide (2<sn)) (decide (3<sn)) (decide (0<(m:Int))) (decide (1<(m:Int))) (decide (2<(m:Int))) (decide (3<(m:Int))) om) aq ?_
 rintro v K _ (⟨E,rfl,rfl⟩) ar
 have B:=CW ar
 refine⟨kd [rd 0 21 2 4 1 B,rd 0 16 2 3 1 B,rd 0 7 2 1 1 B,rd 0 3 2 0 1 B],?_⟩
 refine cG call176 (RC u n om) B.c.t8 ?_
 rintro v K _ (⟨F,rfl,rfl⟩) au
 have G:=CW au
 refine⟨kd [rd 0 21 4 4 1 G,rd 0 7 4 1 1 G,rd 0 3 4 0 1 G],?_⟩
 refine cG call177 (RD y D om) G.e.t9 ?_
 rintro v K _ (⟨H,rfl,rfl⟩) av
 have P:=CW av
 refine⟨kd [rd 0 7 6 1 1 P,rd 0 3 6 0 1 P],?_⟩
 refine g0<|nG (fun q_=>pV q_) 250 [iV n,iV m,pV E,pV F,pV H,.slice none 0 0] P (fun C bg W=>⟨kd [],?_⟩)
 refine go [rd 4 3 7 5 1 W] ?_
 have aw:sat g _ (Sl 257 1 none 0 0 (fl KY [])::_):=CP 257 1 W
 refine Jc (fun mz_ a w=> ∃i:Nat,∃I:Option Addr,∃J:Nat,∃T:List Nat,∃lr:Fr,mz_=m-i∧(i≤m)∧(T.length=i)∧a=mk 56 (([(3,pV C),(37,.slice p m q),(38,iV m),(39,iV i)]:Fr)++lr)∧sat g w [Cl C [iV n,iV m,pV E,pV F,pV H,.slice I i J] 250,Sl 257 1 I i J (fl KY T),Cl y ([bF,iV 0,iV D]++List.replicate 65 (iV 0)) 344,Cl H ([bF,iV 0,iV D]++List.replicate 65 (iV 0)) 344,Cl u ([iV n]++List.replicate 256 (yV 0)) 336,Cl F ([iV n]++List.replicate 256 (yV 0)) 336,Cl t [iV ph,iV m,iV cy,.bool (decide (0<sn)),.bool (decide (1<sn)),.bool (decide (2<sn)),.bool (decide (3<sn)),.bool (decide (0<(m:Int))),.bool (decide (1<(m:Int))),.bool (decide (2<(m:Int))),.bool (decide (3<(m:Int)))] 340,Cl E [iV ph,iV m,iV cy,.bool (decide (0<sn)),.bool (decide (1<sn)),.bool (decide (2<sn)),.bool (decide (3<sn)),.bool (decide (0<(m:Int))),.bool (decide (1<(m:Int))),.bool (decide (2<(m:Int))),.bool (decide (3<(m:Int)))] 340,Cl b [iV n,iV m,pV t,pV u,pV y,.slice p m q] 250,Sl 257 1 p m q (fl KY A),Bs (List.replicate 64 (iV 0)++ [iV O,iV 0,iV 0,bT]) 346 A,R]) (m-0) ⟨0,none,0,[],_,rfl,(Nat.zero_le _),rfl,(Ck [.k 3 (pV C),.k 37 (.slice p m q),.k 38 (iV m),.o 39 (oJ .i64 0 (0:Int))]),aw.a.t12⟩ ?_
 rintro bh bi bj ⟨i,I,J,T,bk,rfl,hi_,hT_,rfl,Q⟩
 refine ga<|go [.s 5 0] ?_
 by_cases X:(i:Int)<(m:Int)
 ·
  obtain⟨S,Y⟩:=Av (j:=9) Q rfl om
  refine go [.v 5 0 (oT _ X),.s 6 0]<|AS (.pointer (some ⟨S,i,none⟩)) (Ft (Ot 37) (Ot 39) p S 0 (i:Int) m q underlying248 1 i Y i) ?_
  have U:=Q.i.t12
  have ax:=Ca GK dc U
  obtain⟨V,Z⟩: ∃x,A[i]? =some x:=⟨_,List.getElem?_eq_getElem (by rw[ax];omega)⟩
  refine go [.r 6 1 S i [pV V] ⟨CM 0 U rfl Y GK 0 (pV V) Z i,trivial⟩]<|dw (AE [0,1,2,3,4,5] (Tr.an 6 (Tr.an 7 (Tr.an 8 (AE [9,10] (Tr.an 11 Tr.nil)))))) U fun _ aa=> ?_
  have ay:=aa.j.t12
  refine go [rd 7 4 1 5 1 aa]<|cG call178 (wV V i O A Z om) ay ?_
  rintro v K _ (⟨L,rfl,rfl⟩) az
  have ab:=B3 az
  refine⟨kd [rd 0 4 2 5 1 ab],?_⟩
  refine nG (fun q_=> .slice (some ⟨q_,0,none⟩) 1 1) 257 [pV L] ab (fun ba _ ac=>⟨kd [rd 0 4 3 5 1 ac],?_⟩)
  have ad:=ac.d.t13
  refine AH ?_
  refine aA 51 1 (Ot 47) (Ot 50) (pO) I i J 1 1 (⟨ba,0,none⟩) 8 underlying248 ad (fl KY [L]) rfl (Br ad rfl) (Aw GK _) (i+1) ?_
  intro M N bl bb
  have ae:sat g _ (Sl 257 1 M (i+1) N (fl KY (T++ [L]))::_):=sJ bb
  obtain⟨bm,bn⟩:=BH ae
  refine⟨kd [],DE ?_⟩
  have bc:=ae.d.t13
  refine g0<|sG [(5,.slice M (i+1) N)] [iV n,iV m,pV E,pV F,pV H,.slice M (i+1) N] bc fun _ bd=>⟨kd [],?_⟩
  refine go [.v 8 0 (CD ((i:Int)+1))] ?_
  refine ET ?_
  have be:=bd.l.d.e.l.l.l.l.l.l.l.k.k.t13.t12
  change ∃n',n'<_∧_
  refine⟨(m-(i+1)),by omega,(i+1),M,N,(T++ [L]),_,rfl,om,(by rw[List.length_append,hT_];rfl),(Ck [.k 3 (pV C),.k 37 (.slice p m q),.k 38 (iV m),.o 39 (oJ .i64 ((i:Int)+1) (((i+1):Nat):Int))]),be⟩
 refine go [.v 5 0 (oF _ X)]<|up<|g0 ?_
 have bf:sat g _ (Mr b n m ph cy sn::_):=BR b n m ph cy sn t u y p q A D O af ag ah ai aj ak al Q.j.j.d.f.h.j.t12
 exact en _ [] ⟨_,_,rfl,⟨C,rfl,rfl⟩,bf.f.a.t2⟩
theorem RE(b a:Nat)(c d:Int)(_:0≤(a:Int)-1):HQ 179 [pV b] [Cl b [iV a,iV c,iV d] 263] (bT) [Cl b [iV a,iV c,iV d] 263]:=by
 refine AC func179 ntmps179 fun g w0 R e=>go [rd 1 6 0 0 1 e,.v 1 7 (oT ((a:Int)>0))] ?_
 exact AD _ [] e
theorem RF(e b:Nat)(c d:Int)(_:0≤(b:Int)-1):HT prog 116 [pV e] [Cl e [iV b,iV c,iV d] 263] (fun v K=> ∃f:Nat,v=pV f∧K= [Cl e [iV b,iV c,iV d] 263,Cl f [iV b,iV c,iV d] 263]):=by
 refine AC func116 ntmps116 fun g w0 R h0=>g0<|AF call179 (RE e b c d om) h0 fun _ i=>go [rd 3 2 0 0 3 i]<|nP 263 [iV 0,iV 0,iV 0] i (fun f _ j=> ?_)
 refine sA [iV b,iV c,iV d] j fun _ k=>g0 ?_
 exact en _ [] ⟨_,_,rfl,⟨f,rfl,rfl⟩,k.a.t3⟩
theorem zS(b n m:Nat)(ph cy sn at_ nx bg:Int):HT prog 45 [pV b] [Cy b n m ph cy sn at_ nx bg] (fun v K=> ∃r:Nat,v=pV r∧K= [Cy b n m ph cy sn at_ nx bg]):=by
 refine AC func45 ntmps45 fun g w0 R h0=> ?_
 obtain⟨f,e,k,q,s,t,u,x,y⟩:=BT h0
 have z:sat g _ (Cl b [pV f,pV e,iV n,iV m,iV at_,iV bg,bF] 158::_):=y
 refine g0<|AF call114 (Ab b f e n m at_ bg) z fun _ l=>go [rd 3 2 0 0 7 l]<|nP 158 [pO,pO,iV 0,iV 0,iV 0,iV 0,bF] l (fun A _ B=> ?_)
 refine sA [pV f,pV e,iV n,iV m,iV at_,iV bg,bF] B fun _ C=>g0<|dw (AE [0,1,2,3,5,6,7,8] (Tr.an 4 (Tr.an 9 (Tr.fl 10 (Tr.an 11 (Tr.fl 12 (Tr.an 13 Tr.nil))))))) C fun _ i=> ?_
 have D:=i.b.t5
 refine go [rd 4 3 1 0 1 i,rd 4 8 1 1 1 i]<|cG call115 (zR f n m ph cy sn) D ?_
 rintro v K _ (⟨j,rfl,rfl⟩) E
 have o:=B3 E
 refine⟨kd [rd 0 8 2 1 1 o],?_⟩
 refine cG call116 (RF e n nx k om) o.c.t5 ?_
 rintro v K _ (⟨p,rfl,rfl⟩) F
 have G:=CW F
 refine⟨kd [],?_⟩
 have H:=G.c.t6
 refine g0<|sG [(0,pV j)] [pV j,pV e,iV n,iV m,iV at_,iV bg,bF] H fun _ I=>⟨kd [],?_⟩
 refine g0<|sG [(1,pV p)] [pV j,pV p,iV n,iV m,iV at_,iV bg,bF] I fun M J=>⟨kd [],?_⟩
 refine g0 ?_
 have L:sat g _ (Cy b n m ph cy sn at_ nx bg::_):=Az b n m ph cy sn at_ nx bg f e k q s t u x J.a.c.d.t6
 exact en _ [] ⟨_,_,rfl,⟨A,rfl,rfl⟩,L.c.a.t2⟩
section
section
variable {ds : List Deferred} {α β : Type} {kv : α → Value} {ve : β → Value}
variable {P : Program} {Q : Exit → Act → World → Prop} {g w : World} {L : List AB} {n : Nat} {l : Fr} {o : Oper} {N : Act → World → Prop} {b r : Nat} {E : List (α × β)} {cur : Option (α × β)}
theorem LC{d:Nat}{x:Operand}{a:α×β}(ho:o.op= .next x false)(hd:o.dst=some d)(hn:Nat.blt d n=true)(hx:fe n l x= .pointer (some ⟨r,0,none⟩))(hs:sat g w (It kv ve b r E [a] cur::L))
 (h: ∀w',sat g w' (It kv ve b r E [] (some a)::L)→N (Ad ds n ((d,.tuple #[bT,kv a.1,ve a.2])::l)) w'):OP P o (Ad ds n l) w N Q:=by
 refine Jf ho hd hn hx hs (fun h0=>by cases h0) fun k q hq w' hw=> ?_
 cases k with
 |zero=>
  rw[List.getElem?_cons_zero] at hq
  obtain rfl:=Option.some.inj hq
  exact h w' hw
 |succ k=>simp at hq
theorem LD{d:Nat}{x:Operand}(ho:o.op= .next x false)(hd:o.dst=some d)(hn:Nat.blt d n=true)(hx:fe n l x= .pointer (some ⟨r,0,none⟩))(hs:sat g w (It kv ve b r E [] cur::L))
 (h: ∀w',sat g w' (It kv ve b r E [] cur::L)→N (Ad ds n ((d,.tuple #[bF])::l)) w'):OP P o (Ad ds n l) w N Q:=
 Jf ho hd hn hx hs (fun _=>h) fun k q hq=>by simp at hq
theorem LE{d f t:Nat}(h:D8 o n l=some (some d,f,[Value.iface t (.map (some b))]))(hn:Nat.blt d n=true)(hr: ∀w,(callFunc f #[Value.iface t (.map (some b))]).run P w=(Extern.MapsClone.clone #[Value.iface t (.map (some b))]>>=fun v=>pure (Next.value v)).run P w)
 (hs:sat g w (Gp kv ve b E::L))(k: ∀r w',sat g w' (Gp kv ve r E::Gp kv ve b E::L)→N (Ad ds n ((d,Value.iface t (.map (some r)))::l)) w'):OP P o (Ad ds n l) w N Q:=by
 refine⟨?_⟩
 obtain⟨dst,op,ty,pos,aft,gd⟩:=o
 unfold D8 at h
 dsimp only at h
 split at h
 · rename_i x xs tys
   split at h
   · rename_i f' first captured hx
     simp only[Option.some.injEq,Prod.mk.injEq] at h
     obtain⟨rfl,rfl,hv⟩:=h
     unfold Oper.wp
     rw[An]
     have e1:(execOp (fe n l) {dst:=some d,op:= .call {callee:= .value x,args:=xs,argTypes:=tys},type:=ty,pos:=pos,after:=aft,guard:=gd})=callFunc f' ((first++xs.map (fe n l))++captured):=by
      simp only[execOp,resolve,hx,Deferred.ofValue]
      rfl
     have e2:((first++xs.map (fe n l))++captured)= #[Value.iface t (.map (some b))]:=by
      apply Array.ext'
      simpa using hv
     obtain⟨es,clock,h1,h2⟩:=HX hs
     have hb:w.heap[b]? =some (.map es clock):=Ax h2 (i:=0) rfl
     have e3:(Extern.MapsClone.clone #[Value.iface t (.map (some b))]>>=fun v=>pure (Next.value v)).run P w= .ok (.value (.iface t (.map (some w.heap.size)))) (w.alloc (.map es clock)):=by
      have e:Extern.MapsClone.clone #[.iface t (.map (some b))]=(getObj b>>=fun o=>match o with
       | .map entries clock=>newObj (.map entries clock)>>=fun r'=>pure (.iface t (.map (some r')))
       |_=>stuck "maps.clone: a map expected"):=rfl
      have hg:(getObj b).run P w= .ok (.map es clock) w:=by simp[getObj,Sem.run,hb]
      rw[e]
      simp[go_sem,hg]
     rw[e1,e2,hr,e3,Oper.upon_value]
     show N ((Ad ds n l).put (some d) _) _
     rw[CE (by rw[BJ] at hn;simpa using hn)]
     have h3:=CN h2 (.map es clock)
     have h4:sat g _ ((pt b (.map es clock)::L)++ [Gp kv ve w.heap.size E]):=AN (A:= [Gp kv ve w.heap.size E]) (EK h1 h3)
     exact k _ _ (AN (A:=Gp kv ve b E::L) (EK h1 h4))
   · cases h
 · cases h
end
end
theorem TJ(b:Nat):HT prog 250 [.map (some b)] [Gp kI Bu b ([]:List (Int×(Int×Int)))] (fun v K=> ∃c:Nat,v= .map (some c)∧K= [Gp kI Bu b ([]:List (Int×(Int×Int))),Gp kI Bu c ([]:List (Int×(Int×Int)))]):=by
 refine AC func250 ntmps250 fun g w0 R h0=>go [.s 3 1]<|AS (.iface 264 (.map (some b))) (BS (t:=264) (x:=Ot 5) kr underlying264 rfl (.map (some b)) kr _) ?_
 refine AH ?_
 refine LE (t:=264) (d:=7) (f:=245) kr rfl (fun w_=>by rw[run_callFunc_extern func245 kr kr kr (e:=Extern.MapsClone.clone) kr];simp only[Sem.run_bind,Sem.run_pure]) h0 ?_
 intro c _ i
 refine B1<|AS (.map (some c)) (Ew (t:=264) (s:=20) (x:=Ot 7) kr underlying264 rfl (.map (some c)) kr _)<|g0 ?_
 exact en _ [] ⟨_,_,rfl,⟨c,rfl,rfl⟩,i.a.t3⟩
theorem L6(b:Nat):HT prog 251 [.map (some b)] [Gp Bu kI b ([]:List ((Int×Int)×Int))] (fun v K=> ∃c:Nat,v= .map (some c)∧K= [Gp Bu kI b ([]:List ((Int×Int)×Int)),Gp Bu kI c ([]:List ((Int×Int)×Int))]):=by
 refine AC func251 ntmps251 fun g w0 R h0=>go [.s 3 1]<|AS (.iface 265 (.map (some b))) (BS (t:=265) (x:=Ot 5) kr underlying265 rfl (.map (some b)) kr _) ?_
 refine AH ?_
 refine LE (t:=265) (d:=7) (f:=245) kr rfl (fun w_=>by rw[run_callFunc_extern func245 kr kr kr (e:=Extern.MapsClone.clone) kr];simp only[Sem.run_bind,Sem.run_pure]) h0 ?_
 intro c _ i
 refine B1<|AS (.map (some c)) (Ew (t:=265) (s:=20) (x:=Ot 7) kr underlying265 rfl (.map (some c)) kr _)<|g0 ?_
 exact en _ [] ⟨_,_,rfl,⟨c,rfl,rfl⟩,i.a.t3⟩
theorem RG(j f i:Nat):HT prog 180 [pV j] [Cl j [iV 256,.map (some f),.map (some i)] 267,Gp kI Bu f ([]:List (Int×(Int×Int))),Gp Bu kI i ([]:List ((Int×Int)×Int))] (fun v K=> ∃m:Nat,∃k:Nat,∃l:Nat,v=pV m∧K= [Cl j [iV 256,.map (some f),.map (some i)] 267,Gp kI Bu f ([]:List (Int×(Int×Int))),Gp Bu kI i ([]:List ((Int×Int)×Int)),Cl m [iV 256,.map (some k),.map (some l)] 267,Gp kI Bu k ([]:List (Int×(Int×Int))),Gp Bu kI l ([]:List ((Int×Int)×Int))]):=by
 refine AC func180 ntmps180 fun g w0 R h0=>g0<|AF call249 (Eu j f i) h0 fun _ s=>g0<|dw (AE [0,1,2,3,4,5,6,7,9,10,11,12] (Tr.an 8 (Tr.an 13 (Tr.fl 14 (Tr.an 15 (Tr.fl 16 Tr.nil)))))) s fun _ o=> ?_
 have t:=o.a.t4
 refine go [rd 3 3 0 0 1 o,rd 3 7 0 1 1 o,rd 3 12 0 2 1 o]<|cG call250 (TJ f) t ?_
 rintro v K _ (⟨k,rfl,rfl⟩) u
 have p:=CW u
 refine⟨kd [rd 0 12 2 2 1 p,rd 0 3 2 0 1 p],?_⟩
 refine cG call251 (L6 i) p.c.t5 ?_
 rintro v K _ (⟨l,rfl,rfl⟩) x
 have q:=CW x
 refine⟨kd [rd 0 3 4 0 1 q],?_⟩
 refine g0<|nG (fun q_=>pV q_) 267 [iV 256,.map (some k),.map (some l)] q (fun m _ y=>⟨kd [],?_⟩)
 refine g0 ?_
 exact en _ [] ⟨_,_,rfl,⟨m,k,l,rfl,rfl⟩,y.d.a.b.d.e.t7⟩
theorem RH(d b:Nat)(c:Int)(_:0≤(b:Int)-1):HT prog 181 [pV d] [Cl d ([iV b,iV c]++List.replicate 65 (iV 0)) 270] (fun v K=> ∃e:Nat,v=pV e∧K= [Cl d ([iV b,iV c]++List.replicate 65 (iV 0)) 270,Cl e ([iV b,iV c]++List.replicate 65 (iV 0)) 270]):=by
 refine AC func181 ntmps181 fun g w0 R h0=>g0<|AF call252 (D1 d b c om) h0 fun _ f=>go [rd 3 2 0 0 67 f]<|nP 270 (List.replicate 67 (iV 0)) f (fun e _ i=> ?_)
 refine sP [(0,iV b),(1,iV c),(2,iV 0),(3,iV 0),(4,iV 0),(5,iV 0),(6,iV 0),(7,iV 0),(8,iV 0),(9,iV 0),(10,iV 0),(11,iV 0),(12,iV 0),(13,iV 0),(14,iV 0),(15,iV 0),(16,iV 0),(17,iV 0),(18,iV 0),(19,iV 0),(20,iV 0),(21,iV 0),(22,iV 0),(23,iV 0),(24,iV 0),(25,iV 0),(26,iV 0),(27,iV 0),(28,iV 0),(29,iV 0),(30,iV 0),(31,iV 0),(32,iV 0),(33,iV 0),(34,iV 0),(35,iV 0),(36,iV 0),(37,iV 0),(38,iV 0),(39,iV 0),(40,iV 0),(41,iV 0),(42,iV 0),(43,iV 0),(44,iV 0),(45,iV 0),(46,iV 0),(47,iV 0),(48,iV 0),(49,iV 0),(50,iV 0),(51,iV 0),(52,iV 0),(53,iV 0),(54,iV 0),(55,iV 0),(56,iV 0),(57,iV 0),(58,iV 0),(59,iV 0),(60,iV 0),(61,iV 0),(62,iV 0),(63,iV 0),(64,iV 0),(65,iV 0),(66,iV 0)] ([iV b,iV c]++List.replicate 65 (iV 0)) i fun _ j=>g0 ?_
 exact en _ [] ⟨_,_,rfl,⟨e,rfl,rfl⟩,j.a.t3⟩
theorem Oq(b:Nat):HT prog 253 [.map (some b)] [Gp kI kI b ([]:List (Int×Int))] (fun v K=> ∃c:Nat,v= .map (some c)∧K= [Gp kI kI b ([]:List (Int×Int)),Gp kI kI c ([]:List (Int×Int))]):=by
 refine AC func253 ntmps253 fun g w0 R h0=>go [.s 3 1]<|AS (.iface 271 (.map (some b))) (BS (t:=271) (x:=Ot 5) kr underlying271 rfl (.map (some b)) kr _) ?_
 refine AH ?_
 refine LE (t:=271) (d:=7) (f:=245) kr rfl (fun w_=>by rw[run_callFunc_extern func245 kr kr kr (e:=Extern.MapsClone.clone) kr];simp only[Sem.run_bind,Sem.run_pure]) h0 ?_
 intro c _ i
 refine B1<|AS (.map (some c)) (Ew (t:=271) (s:=20) (x:=Ot 7) kr underlying271 rfl (.map (some c)) kr _)<|g0 ?_
 exact en _ [] ⟨_,_,rfl,⟨c,rfl,rfl⟩,i.a.t3⟩
theorem RJ(d b:Nat):HT prog 182 [pV d] [Cl d [.map (some b)] 273,Gp kI kI b ([]:List (Int×Int))] (fun v K=> ∃f:Nat,∃e:Nat,v=pV f∧K= [Cl d [.map (some b)] 273,Gp kI kI b ([]:List (Int×Int)),Cl f [.map (some e)] 273,Gp kI kI e ([]:List (Int×Int))]):=by
 refine AC func182 ntmps182 fun g w0 R i=> ?_
 have j:=i.a.t3
 refine go [rd 1 6 0 0 1 i,rd 3 3 0 0 1 i]<|cP call253 (Oq b) j ?_
 rintro v K _ (⟨e,rfl,rfl⟩) k
 have l:=CW k
 refine g0<|nP 273 [.map (some e)] l (fun f _ m=> ?_)
 refine g0 ?_
 exact en _ [] ⟨_,_,rfl,⟨f,e,rfl,rfl⟩,m.a.c.t5⟩
theorem RK(a b c e j m:Nat)(p:Int)(o:Nat)(_:0≤(m:Int)-1):HT prog 118 [.agg #[pV a,pV b,pV c]] [Cl a [iV 256,.map (some e),.map (some j)] 267,Gp kI Bu e ([]:List (Int×(Int×Int))),Gp Bu kI j ([]:List ((Int×Int)×Int)),Cl b ([iV m,iV p]++List.replicate 65 (iV 0)) 270,Cl c [.map (some o)] 273,Gp kI kI o ([]:List (Int×Int))] (fun v K=> ∃q:Nat,∃s:Nat,∃t:Nat,∃u:Nat,∃x:Nat,∃y:Nat,v= .agg #[pV q,pV s,pV t]∧K= [Cl a [iV 256,.map (some e),.map (some j)] 267,Gp kI Bu e ([]:List (Int×(Int×Int))),Gp Bu kI j ([]:List ((Int×Int)×Int)),Cl b ([iV m,iV p]++List.replicate 65 (iV 0)) 270,Cl c [.map (some o)] 273,Gp kI kI o ([]:List (Int×Int)),Cl q [iV 256,.map (some u),.map (some x)] 267,Gp kI Bu u ([]:List (Int×(Int×Int))),Gp Bu kI x ([]:List ((Int×Int)×Int)),Cl s ([iV m,iV p]++List.replicate 65 (iV 0)) 270,Cl t [.map (some y)] 273,Gp kI kI y ([]:List (Int×Int))]):=by
 refine AC func118 ntmps118 fun g w0 R h0=>g0<|nP 168 [pV a,pV b,pV c] h0 (fun _ _ D=> ?_)
 refine nP 168 [pO,pO,pO] D (fun _ _ E=> ?_)
 refine g0<|dw (AE [0,1,3,4,6,7] (Tr.an 2 (Tr.an 5 (Tr.an 8 (Tr.fl 9 (Tr.an 10 Tr.nil)))))) E fun _ z=> ?_
 have F:=z.d.d.d.t9
 refine go [rd 1 1 1 0 1 z,rd 1 4 1 1 1 z,rd 1 7 1 2 1 z]<|cG call180 (RG a e j) F ?_
 rintro v K _ (⟨q,u,x,rfl,rfl⟩) G
 have A:=ap6 G
 refine⟨kd [rd 0 7 7 2 1 A,rd 0 4 7 1 1 A],?_⟩
 refine cG call181 (RH b m p om) A.h.t12 ?_
 rintro v K _ (⟨s,rfl,rfl⟩) H
 have B:=CW H
 refine⟨kd [rd 0 7 9 2 1 B],?_⟩
 refine cG call182 (RJ c o) B.k.k.t13 ?_
 rintro v K _ (⟨t,y,rfl,rfl⟩) I
 have J:=Wx I
 refine⟨kd [],?_⟩
 have L:=J.l.t15
 refine g0<|sB [pV q,pV s,pV t] L fun _ C=>⟨kd [],?_⟩
 refine g0 ?_
 exact en _ [rd 0 0 0 0 3 C] ⟨_,_,rfl,⟨q,s,t,u,x,y,rfl,rfl⟩,C.d.d.f.l.l.l.h.h.i.l.l.l.t15.n.l.l.l.l.l.l.l.l.l.l.l.l.t13⟩
theorem zT(b q:Nat)(f:Int):HT prog 46 [pV b] [Bl b q f] (fun v K=> ∃r:Nat,v=pV r∧K= [Bl b q f]):=by
 refine AC func46 ntmps46 fun g w0 R h0=> ?_
 obtain⟨c,d,cl12,e,i,k,o,p,s⟩:=FL h0
 have t:sat g _ (Cl b [pV c,pV d,pV cl12,iV 256] 170::_):=s
 refine g0<|AF call117 (BG b c d cl12) t fun _ u=>g0<|dw (AE [0,1,2,3,5,6,7,8] (Tr.an 4 (Tr.fl 9 (Tr.an 10 (Tr.fl 11 Tr.nil))))) u fun _ j=> ?_
 have x:=j.f.f.f.f.f.f.t8
 refine go [rd 3 3 0 0 3 j,rd 3 8 0 3 1 j]<|cG call118 (RK c d cl12 e i q f k om) x ?_
 rintro v K F (⟨y,z,A,G,H,I,rfl,rfl⟩) B
 have l:sat g _ (Cl c [iV 256,.map (some e),.map (some i)] 267::_):=B
 refine⟨kd [rd 0 8 12 3 1 l],?_⟩
 refine g0<|nG (fun q_=>pV q_) 170 [pV y,pV z,pV A,iV 256] l (fun C J D=>⟨kd [],?_⟩)
 refine g0 ?_
 have E:sat g _ (Bl b q f::_):=C4 b q f c d cl12 e i k o p D.f.f.f.f.f.f.m.t15
 exact en _ [] ⟨_,_,rfl,⟨C,rfl,rfl⟩,E.h.a.t2⟩
theorem zU(b:Nat)(tz oz og:Int)(L:List UInt8)(wy qz:Int):HT prog 49 [pV b] [Bj b tz [((1,oz,og),(L,qz,0,wy,3))]] (fun v K=> ∃r:Nat,v=pV r∧K= [Bj r tz [((1,oz,og),(L,qz,0,wy,3))],Bj b tz [((1,oz,og),(L,qz,0,wy,3))]]):=by
 refine AC func49 ntmps49 fun g w0 R h0=> ?_
 obtain⟨i,z,A⟩:=GT h0
 have B:sat g _ (Cl b [iV tz,.map (some i)] 125::_):=A
 refine g0<|AF call50 (Da b tz i) B fun _ l=>go [rd 3 3 0 0 1 l] ?_
 refine AH ?_
 refine Bw (t:=123) (d:=13) kv ES kr kr rfl l ?_
 intro f _ E
 refine B1<|g0<|nP 125 [iV tz,.map (some f)] E (fun j _ o=> ?_)
 have F:=o.c.t5
 refine go [rd 4 3 2 1 1 o] ?_
 refine AH ?_
 refine F8 (t:=123) (d:=20) (x:=Ot 19) kr kr rfl underlying123 kr F ?_
 intro _ _ G
 refine B1<|g0<|DS 39<|g0 ?_
 refine AH ?_
 refine LC (d:=21) (x:=Ot 20) kr kr rfl kr G ?_
 intro _ p
 refine B1<|g0 ?_
 refine AH ?_
 refine AX (d:=23) (.tuple #[.agg #[iV 1,iV oz,uV og],.agg #[sV L,iV qz,iV 0,iV wy,iV 3]]) kr rfl (E9 (x:=Ot 20) kr kr p (.tuple #[.agg #[iV 1,iV oz,uV og],.agg #[sV L,iV qz,iV 0,iV wy,iV 3]]) rfl) ?_
 refine B1<|g0<|nP 48 [iV 0,iV 0,uV 0] p (fun q _ H=> ?_)
 refine nP 127 [sV [],iV 0,iV 0,iV 0,iV 0] H (fun s _ I=> ?_)
 refine sA [iV 1,iV oz,uV og] I.a.t7 fun _ J=>sA [sV L,iV qz,iV 0,iV wy,iV 3] J.a.t7 fun _ M=>g0<|dw (AE [0,1,2,3,4,5] (Tr.an 6 Tr.nil)) M fun _ k=> ?_
 have N:=k.d.t7
 refine go [rd 7 3 3 1 1 k,rd 7 4 1 0 3 k,rd 7 5 0 0 5 k] ?_
 refine AH ?_
 refine BL (t:=123) (m:=Ot 29) (x:=Ot 30) (y:=Ot 31) (kv:=kv) (ve:=ES) kr kr underlying123 Wz (1,oz,og) (L,qz,0,wy,3) kr kr kr N (Au [] (1,oz,og) (L,qz,0,wy,3)) rfl ?_
 intro _ O
 refine⟨kd [],IK ?_⟩
 refine g0<|Bm ?_
 have P:=O.c.t7
 refine g0 ?_
 refine AH ?_
 refine LD (d:=21) (x:=Ot 20) kr kr rfl kr P ?_
 intro u Q
 refine B1<|g0<|up<|g0 ?_
 have S:sat g u [Gp kv ES i [((1,oz,og),(L,qz,0,wy,3))],Gp kv ES f (Au [] (1,oz,og) (L,qz,0,wy,3)),Cl s [sV L,iV qz,iV 0,iV wy,iV 3] 127,Cl q [iV 1,iV oz,uV og] 48,Cl j [iV tz,.map (some f)] 125,Cl b [iV tz,.map (some i)] 125,R]:=KB Q
 have T:sat g _ (Bj b tz [((1,oz,og),(L,qz,0,wy,3))]::_):=C5 b tz [((1,oz,og),(L,qz,0,wy,3))] i z S.e.t7
 have U:sat g u [Gp kv ES f [((1,oz,og),(L,qz,0,wy,3))],Bj b tz [((1,oz,og),(L,qz,0,wy,3))],Cl s [sV L,iV qz,iV 0,iV wy,iV 3] 127,Cl q [iV 1,iV oz,uV og] 48,Cl j [iV tz,.map (some f)] 125,R]:=T.a.t6
 have V:sat g _ (Bj j tz [((1,oz,og),(L,qz,0,wy,3))]::_):=C5 j tz [((1,oz,og),(L,qz,0,wy,3))] f om U.d.t6
 exact en _ [] ⟨_,_,rfl,⟨j,rfl,rfl⟩,V.D.C.t3⟩
def jR(x:List UInt8×Int×Int×Int×Int×Int):List Value:= [sV x.1,iV x.2.1,iV x.2.2.1,uV x.2.2.2.1,iV x.2.2.2.2.1,iV x.2.2.2.2.2]
theorem TK:Enc 6 jR:=⟨fun _=>rfl,fun x v hv=>by simp[jR] at hv;rcases hv with rfl |rfl |rfl |rfl |rfl |rfl<;>rfl⟩
theorem Ou:HQ 193 [.int .u64 0] [] (iV 0) []:=by
 refine AC func193 ntmps193 fun g w0 R h0=>go [.v 10 2 (yH 0),.s 10 3]<|AS (yV 0) (G7 (x:=(Operand.const (sV [0,1,2,2,3,3,3,3,4,4,4,4,4,4,4,4,5,5,5,5,5,5,5,5,5,5,5,5,5,5,5,5,6,6,6,6,6,6,6,6,6,6,6,6,6,6,6,6,6,6,6,6,6,6,6,6,6,6,6,6,6,6,6,6,7,7,7,7,7,7,7,7,7,7,7,7,7,7,7,7,7,7,7,7,7,7,7,7,7,7,7,7,7,7,7,7,7,7,7,7,7,7,7,7,7,7,7,7,7,7,7,7,7,7,7,7,7,7,7,7,7,7,7,7,7,7,7,7,8,8,8,8,8,8,8,8,8,8,8,8,8,8,8,8,8,8,8,8,8,8,8,8,8,8,8,8,8,8,8,8,8,8,8,8,8,8,8,8,8,8,8,8,8,8,8,8,8,8,8,8,8,8,8,8,8,8,8,8,8,8,8,8,8,8,8,8,8,8,8,8,8,8,8,8,8,8,8,8,8,8,8,8,8,8,8,8,8,8,8,8,8,8,8,8,8,8,8,8,8,8,8,8,8,8,8,8,8,8,8,8,8,8,8,8,8,8,8,8,8,8,8,8,8,8,8,8]))) (i:=Ot 21) (k:= .u8) (s:= [0,1,2,2,3,3,3,3,4,4,4,4,4,4,4,4,5,5,5,5,5,5,5,5,5,5,5,5,5,5,5,5,6,6,6,6,6,6,6,6,6,6,6,6,6,6,6,6,6,6,6,6,6,6,6,6,6,6,6,6,6,6,6,6,7,7,7,7,7,7,7,7,7,7,7,7,7,7,7,7,7,7,7,7,7,7,7,7,7,7,7,7,7,7,7,7,7,7,7,7,7,7,7,7,7,7,7,7,7,7,7,7,7,7,7,7,7,7,7,7,7,7,7,7,7,7,7,7,8,8,8,8,8,8,8,8,8,8,8,8,8,8,8,8,8,8,8,8,8,8,8,8,8,8,8,8,8,8,8,8,8,8,8,8,8,8,8,8,8,8,8,8,8,8,8,8,8,8,8,8,8,8,8,8,8,8,8,8,8,8,8,8,8,8,8,8,8,8,8,8,8,8,8,8,8,8,8,8,8,8,8,8,8,8,8,8,8,8,8,8,8,8,8,8,8,8,8,8,8,8,8,8,8,8,8,8,8,8,8,8,8,8,8,8,8,8,8,8,8,8,8,8,8,8,8,8]) (z:=0) (b:=0) kr underlying9 kr kr 0 om rfl _)<|go [.v 10 4 (CD 0)] ?_
 exact AD _ [] h0
theorem TL:HQ 124 [.int .u64 0] [] (iV 0) []:=by
 refine AC func124 ntmps124 fun g w0 R h0=>g0<|AP call193 Ou h0 fun _ a=>g0 ?_
 exact AD _ [] a
theorem RM(a:Nat):HQ 184 [.slice none 0 0,iV 0,iV 0,.func (Fn.func 52) #[] #[pV a]] [] (.tuple #[]) []:=by
 refine AC func184 ntmps184 fun g w0 R h0=>g0<|DS 39<|g0<|up<|g0 ?_
 exact AD _ [] h0
theorem RN(a:Nat):HQ 123 [.slice none 0 0,iV 0,iV 0,iV 0,.func (Fn.func 52) #[] #[pV a]] [] (.tuple #[]) []:=by
 refine AC func123 ntmps123 fun g w0 R h0=>g0<|DS 39<|g0<|AP call184 (RM a) h0 fun _ b=>g0<|up<|g0 ?_
 exact AD _ [] b
theorem RO(a:Nat):HQ 51 [.slice none 0 0,.func (Fn.func 52) #[] #[pV a]] [] (.tuple #[]) []:=by
 refine AC func51 ntmps51 fun g w0 R h0=>go [.v 1 3 (tE 0)]<|AP call124 TL h0 fun _ b=>g0<|AP call123 (RN a) b fun _ c=>g0 ?_
 exact AD _ [] c
theorem rJ(b:Nat)(tz oz og:Int)(L:List UInt8)(qz:Int)(_:0≤qz):HQ 24 [pV b] [Bj b tz [((1,oz,og),(L,qz,0,1,3))]] (.slice none 0 0) [Bj b tz [((1,oz,og),(L,qz,0,1,3))]]:=by
 refine AC func24 ntmps24 fun g w0 R h0=> ?_
 obtain⟨e,m,o⟩:=GT h0
 have p:sat g _ (Cl b [iV tz,.map (some e)] 125::_):=o
 refine g0<|nP 82 [pV b] p (fun j _ k=> ?_)
 have q:=k.a.t4
 refine go [rd 1 0 0 0 1 k]<|AF call50 (Da b tz e) q fun _ f=> ?_
 have s:=f.b.t4
 refine go [rd 4 0 1 0 1 f,rd 4 3 0 1 1 f] ?_
 refine AH ?_
 refine F8 (t:=123) (d:=13) (x:=Ot 12) kr kr rfl underlying123 kr s ?_
 intro _ _ u
 refine B1<|g0<|DS 39<|g0 ?_
 refine AH ?_
 refine LC (d:=14) (x:=Ot 13) kr kr rfl kr u ?_
 intro _ l
 refine B1<|g0 ?_
 refine AH ?_
 refine AX (d:=16) (.tuple #[.agg #[iV 1,iV oz,uV og],.agg #[sV L,iV qz,iV 0,iV 1,iV 3]]) kr rfl (E9 (x:=Ot 13) kr kr l (.tuple #[.agg #[iV 1,iV oz,uV og],.agg #[sV L,iV qz,iV 0,iV 1,iV 3]]) rfl) ?_
 refine B1<|g0<|nP 48 [iV 0,iV 0,uV 0] l (fun y _ z=> ?_)
 refine nP 127 [sV [],iV 0,iV 0,iV 0,iV 0] z (fun A _ B=> ?_)
 refine sA [iV 1,iV oz,uV og] B.a.t6 fun _ C=>sA [sV L,iV qz,iV 0,iV 1,iV 3] C.a.t6 fun _ i=>go [rd 7 1 0 1 1 i,.v 7 2 (oT (qz≥0)),rd 7 5 0 3 1 i]<|Bm ?_
 have D:=i.b.t6
 refine g0 ?_
 refine AH ?_
 refine LD (d:=14) (x:=Ot 13) kr kr rfl kr D ?_
 intro E F
 refine B1<|g0<|up<|g0 ?_
 have G:sat g E [Gp kv ES e [((1,oz,og),(L,qz,0,1,3))],Cl A [sV L,iV qz,iV 0,iV 1,iV 3] 127,Cl y [iV 1,iV oz,uV og] 48,Cl b [iV tz,.map (some e)] 125,Cl j [pV b] 82,R]:=KB F
 refine AP call51 (RO j) G fun J H=>g0 ?_
 have I:sat g _ (Bj b tz [((1,oz,og),(L,qz,0,1,3))]::_):=C5 b tz [((1,oz,og),(L,qz,0,1,3))] e m H.c.t6
 exact AD _ [] I.d.a.t2
theorem Ow:HQ 193 [.int .u64 1] [] (iV 1) []:=by
 refine AC func193 ntmps193 fun g w0 R h0=>go [.v 10 2 (yH 1),.s 10 3]<|AS (yV 1) (G7 (x:=(Operand.const (sV [0,1,2,2,3,3,3,3,4,4,4,4,4,4,4,4,5,5,5,5,5,5,5,5,5,5,5,5,5,5,5,5,6,6,6,6,6,6,6,6,6,6,6,6,6,6,6,6,6,6,6,6,6,6,6,6,6,6,6,6,6,6,6,6,7,7,7,7,7,7,7,7,7,7,7,7,7,7,7,7,7,7,7,7,7,7,7,7,7,7,7,7,7,7,7,7,7,7,7,7,7,7,7,7,7,7,7,7,7,7,7,7,7,7,7,7,7,7,7,7,7,7,7,7,7,7,7,7,8,8,8,8,8,8,8,8,8,8,8,8,8,8,8,8,8,8,8,8,8,8,8,8,8,8,8,8,8,8,8,8,8,8,8,8,8,8,8,8,8,8,8,8,8,8,8,8,8,8,8,8,8,8,8,8,8,8,8,8,8,8,8,8,8,8,8,8,8,8,8,8,8,8,8,8,8,8,8,8,8,8,8,8,8,8,8,8,8,8,8,8,8,8,8,8,8,8,8,8,8,8,8,8,8,8,8,8,8,8,8,8,8,8,8,8,8,8,8,8,8,8,8,8,8,8,8,8]))) (i:=Ot 21) (k:= .u8) (s:= [0,1,2,2,3,3,3,3,4,4,4,4,4,4,4,4,5,5,5,5,5,5,5,5,5,5,5,5,5,5,5,5,6,6,6,6,6,6,6,6,6,6,6,6,6,6,6,6,6,6,6,6,6,6,6,6,6,6,6,6,6,6,6,6,7,7,7,7,7,7,7,7,7,7,7,7,7,7,7,7,7,7,7,7,7,7,7,7,7,7,7,7,7,7,7,7,7,7,7,7,7,7,7,7,7,7,7,7,7,7,7,7,7,7,7,7,7,7,7,7,7,7,7,7,7,7,7,7,8,8,8,8,8,8,8,8,8,8,8,8,8,8,8,8,8,8,8,8,8,8,8,8,8,8,8,8,8,8,8,8,8,8,8,8,8,8,8,8,8,8,8,8,8,8,8,8,8,8,8,8,8,8,8,8,8,8,8,8,8,8,8,8,8,8,8,8,8,8,8,8,8,8,8,8,8,8,8,8,8,8,8,8,8,8,8,8,8,8,8,8,8,8,8,8,8,8,8,8,8,8,8,8,8,8,8,8,8,8,8,8,8,8,8,8,8,8,8,8,8,8,8,8,8,8,8,8]) (z:=1) (b:=1) kr underlying9 kr kr 1 om rfl _)<|go [.v 10 4 (CD 1)] ?_
 exact AD _ [] h0
theorem TM:HQ 124 [.int .u64 1] [] (iV 1) []:=by
 refine AC func124 ntmps124 fun g w0 R h0=>g0<|AP call193 Ow h0 fun _ a=>g0 ?_
 exact AD _ [] a
theorem RP(a:Option Addr)(b c:Nat):HQ 184 [.slice a 1 b,iV 0,iV 1,.func (Fn.func 52) #[] #[pV c]] [] (.tuple #[]) []:=by
 refine AC func184 ntmps184 fun g w0 R h0=>g0<|DS 39<|g0<|up<|g0 ?_
 exact AD _ [] h0
theorem RQ(a:Option Addr)(b c:Nat):HQ 123 [.slice a 1 b,iV 0,iV 1,iV 1,.func (Fn.func 52) #[] #[pV c]] [] (.tuple #[]) []:=by
 refine AC func123 ntmps123 fun g w0 R h0=>g0<|DS 39<|g0<|AP call184 (RP a b c) h0 fun _ d=>g0<|up<|g0 ?_
 exact AD _ [] d
theorem Ox(a:Option Addr)(b c:Nat):HQ 51 [.slice a 1 b,.func (Fn.func 52) #[] #[pV c]] [] (.tuple #[]) []:=by
 refine AC func51 ntmps51 fun g w0 R h0=>go [.v 0 1 (oJ .i64 (1:Int) 1),.v 1 3 (tE 1)]<|AP call124 TM h0 fun _ d=>g0<|AP call123 (RQ a b c) d fun _ e=>g0 ?_
 exact AD _ [] e
theorem rK(b:Nat)(tz oz og:Int)(L:List UInt8)(qz:Int)(_:0≤qz):HT prog 24 [pV b] [Bj b tz [((1,oz,og),(L,qz,0,3,3))]] (fun v K=> ∃p:Option Addr,∃c:Nat,v= .slice p 1 c∧K= [Bj b tz [((1,oz,og),(L,qz,0,3,3))],Sl 62 6 p 1 c (fl jR [(L,1,oz,og,0,3)])]):=by
 refine AC func24 ntmps24 fun g w0 R h0=> ?_
 obtain⟨j,A,B⟩:=GT h0
 have C:sat g _ (Cl b [iV tz,.map (some j)] 125::_):=B
 refine g0<|nP 82 [pV b] C (fun o _ q=> ?_)
 have D:=q.a.t4
 refine go [rd 1 0 0 0 1 q]<|AF call50 (Da b tz j) D fun _ m=> ?_
 have E:=m.b.t4
 refine go [rd 4 0 1 0 1 m,rd 4 3 0 1 1 m] ?_
 refine AH ?_
 refine F8 (t:=123) (d:=13) (x:=Ot 12) kr kr rfl underlying123 kr E ?_
 intro W _ F
 refine B1<|g0<|DS 39<|g0 ?_
 refine AH ?_
 refine LC (d:=14) (x:=Ot 13) kr kr rfl kr F ?_
 intro _ s
 refine B1<|g0 ?_
 refine AH ?_
 refine AX (d:=16) (.tuple #[.agg #[iV 1,iV oz,uV og],.agg #[sV L,iV qz,iV 0,iV 3,iV 3]]) kr rfl (E9 (x:=Ot 13) kr kr s (.tuple #[.agg #[iV 1,iV oz,uV og],.agg #[sV L,iV qz,iV 0,iV 3,iV 3]]) rfl) ?_
 refine B1<|g0<|nP 48 [iV 0,iV 0,uV 0] s (fun G _ H=> ?_)
 refine nP 127 [sV [],iV 0,iV 0,iV 0,iV 0] H (fun I _ J=> ?_)
 refine sA [iV 1,iV oz,uV og] J.a.t6 fun _ M=>sA [sV L,iV qz,iV 0,iV 3,iV 3] M.a.t6 fun _ i=>go [rd 7 1 0 1 1 i,.v 7 2 (oT (qz≥0)),rd 7 5 0 3 1 i,rd 8 2 0 0 1 i,rd 8 3 1 0 3 i,rd 8 5 0 2 1 i,rd 8 7 0 4 1 i]<|nG (fun q_=> .slice (some ⟨q_,0,none⟩) 1 1) 62 [sV L,iV 1,iV oz,uV og,iV 0,iV 3] i (fun u X N=>⟨kd [],?_⟩)
 have y:sat g _ (Sl 62 6 none 0 0 (fl jR [])::_):=CP 62 6 N
 refine AH ?_
 refine aA 37 6 (Ot 27) (Ot 36) (.agg #[sV [],iV 0,iV 0,uV 0,iV 0,iV 0]) none 0 0 1 1 (⟨u,0,none⟩) 56 underlying54 y (fl jR [(L,1,oz,og,0,3)]) rfl (Br y rfl) (Aw TK _) 1 ?_
 intro k l Y O
 have z:sat g _ (Sl 62 6 k 1 l (fl jR [(L,1,oz,og,0,3)])::_):=sI O
 obtain⟨Z,aa⟩:=BH z
 refine B1<|g0<|Bm ?_
 have P:=z.d.t8
 refine g0 ?_
 refine AH ?_
 refine LD (d:=14) (x:=Ot 13) kr kr rfl kr P ?_
 intro Q S
 refine B1<|g0<|up<|g0 ?_
 have T:sat g Q [Gp kv ES j [((1,oz,og),(L,qz,0,3,3))],Sl 62 6 k 1 l (fl jR [(L,1,oz,og,0,3)]),Cl u [sV L,iV 1,iV oz,uV og,iV 0,iV 3] 62,Cl I [sV L,iV qz,iV 0,iV 3,iV 3] 127,Cl G [iV 1,iV oz,uV og] 48,Cl b [iV tz,.map (some j)] 125,Cl o [pV b] 82,R]:=KB S
 refine AP call51 (Ox k l o) T fun ab U=>g0 ?_
 have V:sat g _ (Bj b tz [((1,oz,og),(L,qz,0,3,3))]::_):=C5 b tz [((1,oz,og),(L,qz,0,3,3))] j A U.e.t8
 exact en _ [] ⟨_,_,rfl,⟨k,l,rfl,rfl⟩,V.f.b.b.t3⟩
theorem wW(b ar yc rq n m:Nat)(zz yy:Int)(q:Nat)(mq bt ba cp fi:Int)(tb wd qo lk:Nat)(tz oz og:Int)(L:List UInt8)(qz:Int)(_:0≤qz):HQ 14 [pV b] [AU b ar yc rq n m zz yy q mq bt ba cp fi tb wd qo lk,Bj lk tz [((1,oz,og),(L,qz,0,1,3))]] (.slice none 0 0) [AU b ar yc rq n m zz yy q mq bt ba cp fi tb wd qo lk,Bj lk tz [((1,oz,og),(L,qz,0,1,3))]]:=by
 refine AC func14 ntmps14 fun g w0 R h0=>g0<|AF call23 (Ae b ar yc rq n m zz yy q mq bt ba cp fi tb wd qo lk) h0 fun _ c=> ?_
 have d:=c.a.t3
 refine go [rd 3 3 0 16 1 c]<|AF call24 (rJ lk tz oz og L qz om) d fun _ e=>g0 ?_
 exact AD _ [] e.a.t3
theorem wX(b ar yc rq n m:Nat)(zz yy:Int)(q:Nat)(mq bt ba cp fi:Int)(tb wd qo lk:Nat)(tz oz og:Int)(L:List UInt8)(qz:Int)(_:0≤qz):HT prog 14 [pV b] [AU b ar yc rq n m zz yy q mq bt ba cp fi tb wd qo lk,Bj lk tz [((1,oz,og),(L,qz,0,3,3))]] (fun v K=> ∃p:Option Addr,∃c:Nat,v= .slice p 1 c∧K= [AU b ar yc rq n m zz yy q mq bt ba cp fi tb wd qo lk,Bj lk tz [((1,oz,og),(L,qz,0,3,3))],Sl 62 6 p 1 c (fl jR [(L,1,oz,og,0,3)])]):=by
 refine AC func14 ntmps14 fun g w0 R h0=>g0<|AF call23 (Ae b ar yc rq n m zz yy q mq bt ba cp fi tb wd qo lk) h0 fun _ d=> ?_
 have e:=d.a.t3
 refine go [rd 3 3 0 16 1 d]<|cP call24 (rK lk tz oz og L qz om) e ?_
 rintro v K _ (⟨f,i,rfl,rfl⟩) j
 have k:=CW j
 refine g0 ?_
 exact en _ [] ⟨_,_,rfl,⟨f,i,rfl,rfl⟩,k.b.t4⟩
theorem Oy(c:Nat)(b:Int)(_:0≤b-1):HT prog 48 [pV c] [Cl c [iV b,pO] 191] (fun v K=> ∃d:Nat,v=pV d∧K= [Cl c [iV b,pO] 191,Cl d [iV b,pO] 191]):=by
 refine AC func48 ntmps48 fun g w0 R h0=>g0<|AF call122 (GR c b om) h0 fun _ e=>go [rd 3 2 0 0 2 e]<|nP 191 [iV 0,pO] e (fun d _ i=> ?_)
 refine sA [iV b,pO] i fun _ f=>go [rd 4 3 1 1 1 f] ?_
 exact en _ [] ⟨_,_,rfl,⟨d,rfl,rfl⟩,f.a.t3⟩
theorem rL(b ar yc rq n m:Nat)(zz yy:Int)(q:Nat)(mq bt ba cp fi:Int)(tb wd qo lk:Nat)(A:List AM)(ec at_ nx bg:Int)(S:Ts)(W:Wst)(f tz oz og:Int)(L:List UInt8)(qz wy:Int)(_:0≤mq-1)(_:0≤ -mq+256):HT prog 22 [pV b] [AU b ar yc rq n m zz yy q mq bt ba cp fi tb wd qo lk,B2 ar n m A,Cy yc n m 0 ec 0 at_ nx bg,Bl rq q f,TW tb 256 S,Wd wd W,Cl qo [iV mq,pO] 191,Bj lk tz [((1,oz,og),(L,qz,0,wy,3))]] (fun v K=> ∃F:Nat,∃N:Nat,∃O:Nat,∃P:Nat,∃G:Nat,∃Q:Nat,∃T:Nat,∃H:Nat,v=pV F∧K= [AU F N O P n m zz yy q mq bt ba cp fi G Q T H,TW G 256 S,Bj H tz [((1,oz,og),(L,qz,0,wy,3))],AU b ar yc rq n m zz yy q mq bt ba cp fi tb wd qo lk,B2 ar n m A,Cy yc n m 0 ec 0 at_ nx bg,Bl rq q f,TW tb 256 S,Wd wd W,Cl qo [iV mq,pO] 191,Bj lk tz [((1,oz,og),(L,qz,0,wy,3))]]):=by
 refine AC func22 ntmps22 fun g w0 R h0=>g0<|AF call23 (Ae b ar yc rq n m zz yy q mq bt ba cp fi tb wd qo lk) h0 fun _ I=>go [rd 3 2 0 0 17 I]<|nP 84 [pO,pO,pO,iV 0,iV 0,iV 0,iV 0,iV 0,iV 0,iV 0,iV 0,iV 0,uV 0,pO,pO,pO,pO] I (fun U _ V=> ?_)
 refine sA [pV ar,pV yc,pV rq,iV n,iV m,iV zz,iV yy,iV q,iV mq,iV bt,iV ba,iV cp,uV fi,pV tb,pV wd,pV qo,pV lk] V fun _ X=>g0<|dw (AE [0,1,2,3,4,6,7,8,9,10,12,13,14,15,16] (Tr.an 5 (Tr.an 11 (Tr.an 17 (AE [18,19] (Tr.an 20 Tr.nil)))))) X fun _ y=> ?_
 have Y:=y.b.t10
 refine go [rd 4 4 1 0 1 y,rd 4 10 1 1 1 y,rd 4 16 1 2 1 y]<|cG call44 (zQ ar n m A) Y ?_
 rintro v K _ (⟨a,rfl,rfl⟩) Z
 have C:=B3 Z
 refine⟨kd [rd 0 16 2 2 1 C,rd 0 10 2 1 1 C],?_⟩
 refine cG call45 (zS yc n m 0 ec 0 at_ nx bg) C.c.t10 ?_
 rintro v K _ (⟨o,rfl,rfl⟩) aa
 have J:=B3 aa
 refine⟨kd [rd 0 16 3 2 1 J],?_⟩
 refine cG call46 (zT rq q f) J.d.t10 ?_
 rintro v K _ (⟨p,rfl,rfl⟩) ab
 have ac:=B3 ab
 refine⟨kd [],?_⟩
 have ad:=ac.c.t10
 refine g0<|sG [(0,pV a),(1,pV o),(2,pV p)] [pV a,pV o,pV p,iV n,iV m,iV zz,iV yy,iV q,iV mq,iV bt,iV ba,iV cp,uV fi,pV tb,pV wd,pV qo,pV lk] ad fun _ ae=>⟨kd [],?_⟩
 refine g0<|dw (AE [0,1,2,3,5,6,7,8,10,11,12,13,15,16,17,18] (Tr.an 4 (Tr.an 9 (Tr.an 14 (Tr.an 19 (Tr.fl 20 (Tr.an 21 (Tr.fl 22 (Tr.an 23 (Tr.fl 24 (Tr.an 25 (Tr.fl 26 (Tr.an 27 Tr.nil))))))))))))) ae fun _ t=> ?_
 have af:=t.e.t10
 refine go [rd 5 3 4 13 1 t,rd 5 8 4 14 1 t,rd 5 13 4 15 1 t,rd 5 18 4 16 1 t]<|cG call47 (Ni tb 256 S) af ?_
 rintro v K _ (⟨s,rfl,rfl⟩) ag
 have z:=CW ag
 refine⟨kd [rd 0 18 6 16 1 z,rd 0 13 6 15 1 z,rd 0 8 6 14 1 z],?_⟩
 refine cG call39 (KV wd W) z.x.t11 ?_
 rintro v K _ (⟨u,rfl,rfl⟩) ah
 have D:=CW ah
 refine⟨kd [rd 0 18 8 16 1 D,rd 0 13 8 15 1 D],?_⟩
 refine cG call48 (Oy qo mq om) D.i.t12 ?_
 rintro v K _ (⟨B,rfl,rfl⟩) ai
 have M:=CW ai
 refine⟨kd [rd 0 18 10 16 1 M],?_⟩
 refine cG call49 (zU lk tz oz og L wy qz) M.k.t13 ?_
 rintro v K _ (⟨E,rfl,rfl⟩) aj
 have ak:=CW aj
 refine⟨kd [],?_⟩
 have al:=ak.h.t14
 refine g0<|sG [(13,pV s)] [pV a,pV o,pV p,iV n,iV m,iV zz,iV yy,iV q,iV mq,iV bt,iV ba,iV cp,uV fi,pV s,pV wd,pV qo,pV lk] al fun _ am=>⟨kd [],?_⟩
 refine g0<|sG [(14,pV u)] [pV a,pV o,pV p,iV n,iV m,iV zz,iV yy,iV q,iV mq,iV bt,iV ba,iV cp,uV fi,pV s,pV u,pV qo,pV lk] am fun _ ao=>⟨kd [],?_⟩
 refine g0<|sG [(15,pV B)] [pV a,pV o,pV p,iV n,iV m,iV zz,iV yy,iV q,iV mq,iV bt,iV ba,iV cp,uV fi,pV s,pV u,pV B,pV lk] ao fun _ ap=>⟨kd [],?_⟩
 refine g0<|sG [(16,pV E)] [pV a,pV o,pV p,iV n,iV m,iV zz,iV yy,iV q,iV mq,iV bt,iV ba,iV cp,uV fi,pV s,pV u,pV B,pV E] ap fun _ aq=>⟨kd [],?_⟩
 refine g0 ?_
 exact en _ [] ⟨_,_,rfl,⟨U,a,o,p,s,u,B,E,rfl,rfl⟩,aq.c.e.x.i.j.k.l.h.l.i.t14.m.k.k.k.k.k.k.k.k.k.k.k.t12⟩
section
section
variable {P : Program} {n : Nat} {l : Fr} {o : Oper}
theorem LF{t e len:Nat}{x y:Operand}{cs:Array Value}{v:Value}{z:Int}{kk ke:IntKind}(ho:o.op= .index t x y)(ht:P.underlying t=some (.array len e))(he:P.underlying e=some (.int ke))(hs:(P.info? e).map (·.size)=some 1)(hx:fe n l x= .agg cs)(hy:fe n l y= .int kk z)(k:Nat)(hz:z=(k:Int))(hk:k<len)(hv:cs[k]? =some v)(w:World):
  (execOp (fe n l) o).run P w= .ok (.value v) w:=by
 subst hz
 cases hq:P.info? e with
 |none=>simp[hq] at hs
 |some inf=>
  have hs':inf.size=1:=by simpa [hq] using hs
  have h1:(k:Int)<(len:Int):=by omega
  have h2:k<cs.size:=(Array.getElem?_eq_some_iff.1 hv).1
  have h3:cs[k]=v:=(Array.getElem?_eq_some_iff.1 hv).2
  simp[execOp,ho,hx,hy,Instr.index,asIntOf,run_underlying ht,part,isAgg,run_underlying he,sizeOf,typeInfo,hq,hs',h1,h2,h3]
  try (intro h;omega)
end
end
theorem rM(zo zm zt zq zu zb zw zl:Int)(_:0≤zo)(_:0≤zm)(_:0≤zt)(_:0≤zq)(_:0≤zu)(_:0≤zb)(_:0≤zw)(_:0≤zl)(_:0≤ -zo+255)(_:0≤ -zm+255)(_:0≤ -zt+255)(_:0≤ -zq+255)(_:0≤ -zu+255)(_:0≤ -zb+255)(_:0≤ -zw+255)(_:0≤ -zl+255):HT prog 5 [.agg #[yV zo,yV zm,yV zt,yV zq,yV zu,yV zb,yV zw,yV zl]] [] (fun v K=> ∃fi:Int,(1≤fi∧fi≤4294967293)∧v= .agg #[iV ((zo%16)+1),iV ((zm%4)+1),iV ((zt%8)+1),iV ((zt/8%4)+1),iV ((zq%4)+1),iV ((zu%8)+1),iV ((zb%4)+1),iV ((zw%4)+1),iV ((zw/4%16)+4),uV fi]∧K= []):=by
 refine AC func5 ntmps5 fun g w0 R h0=>g0<|nP 23 [yV zo,yV zm,yV zt,yV zq,yV zu,yV zb,yV zw,yV zl] h0 (fun _ _ f=> ?_)
 refine nP 26 [iV 0,iV 0,iV 0,iV 0,iV 0,iV 0,iV 0,iV 0,iV 0,uV 0] f (fun _ _ i=> ?_)
 refine g0<|dw (AE [0,1,2,3,4,5,6,7,8,9,10,11,12,13,14,15,16,17,18,19,20,21,22,23,24,25,26,27,28,29,30,31,32,33,34,35,36,37,38,39,40,41,42,43,44,45,46,47,48,49,50,51,52] (Tr.an 53 Tr.nil)) i fun _ c=> ?_
 have j:=Ez (a:=zo) (b:=16) om om
 refine go [rd 1 1 1 0 1 c,.s 1 2]<|lw (yV (zo%16)) (fun _=>Bh (t:=5) (x:=Ot 4) (y:=(Operand.const (yV 16))) kr zo 16 kr kr om (zo%16) (EL om) _) ?_
 have k:=Ez (a:=zm) (b:=4) om om
 refine go [.v 1 3 (CD (zo%16)),.v 1 4 (oI (1+(zo%16)) ((zo%16)+1)),rd 1 6 1 1 1 c,.s 1 7]<|lw (yV (zm%4)) (fun _=>Bh (t:=5) (x:=Ot 9) (y:=(Operand.const (yV 4))) kr zm 4 kr kr om (zm%4) (EL om) _) ?_
 have l:=Ez (a:=zt) (b:=8) om om
 refine go [.v 1 8 (CD (zm%4)),.v 1 9 (oI (1+(zm%4)) ((zm%4)+1)),rd 1 11 1 2 1 c,.s 1 12]<|lw (yV (zt%8)) (fun _=>Bh (t:=5) (x:=Ot 14) (y:=(Operand.const (yV 8))) kr zt 8 kr kr om (zt%8) (EL om) _) ?_
 have m:=Rz (a:=zt) (b:=8) om om
 refine go [.v 1 13 (CD (zt%8)),.v 1 14 (oI (1+(zt%8)) ((zt%8)+1)),rd 1 16 1 2 1 c,.s 1 17]<|lw (yV (zt/8)) (fun _=>TT (t:=5) (x:=Ot 19) (y:=(Operand.const (yV 8))) kr zt 8 kr kr om (zt/8) (Xl om om om) _) ?_
 have o:=Ez (a:=(zt/8)) (b:=4) om om
 refine lw (yV ((zt/8)%4)) (fun _=>Bh (t:=5) (x:=Ot 20) (y:=(Operand.const (yV 4))) kr (zt/8) 4 kr kr om ((zt/8)%4) (EL om) _) ?_
 have p:=Ez (a:=zq) (b:=4) om om
 refine go [.v 1 19 (CD ((zt/8)%4)),.v 1 20 (oI (1+((zt/8)%4)) ((zt/8)%4+1)),rd 1 22 1 3 1 c,.s 1 23]<|lw (yV (zq%4)) (fun _=>Bh (t:=5) (x:=Ot 25) (y:=(Operand.const (yV 4))) kr zq 4 kr kr om (zq%4) (EL om) _) ?_
 have q:=Ez (a:=zu) (b:=8) om om
 refine go [.v 1 24 (CD (zq%4)),.v 1 25 (oI (1+(zq%4)) ((zq%4)+1)),rd 1 27 1 4 1 c,.s 1 28]<|lw (yV (zu%8)) (fun _=>Bh (t:=5) (x:=Ot 30) (y:=(Operand.const (yV 8))) kr zu 8 kr kr om (zu%8) (EL om) _) ?_
 have u:=Ez (a:=zb) (b:=4) om om
 refine go [.v 1 29 (CD (zu%8)),.v 1 30 (oI (1+(zu%8)) ((zu%8)+1)),rd 1 32 1 5 1 c,.s 1 33]<|lw (yV (zb%4)) (fun _=>Bh (t:=5) (x:=Ot 35) (y:=(Operand.const (yV 4))) kr zb 4 kr kr om (zb%4) (EL om) _) ?_
 have A:=Ez (a:=zw) (b:=4) om om
 refine go [.v 1 34 (CD (zb%4)),.v 1 35 (oI (1+(zb%4)) ((zb%4)+1)),rd 1 37 1 6 1 c,.s 1 38]<|lw (yV (zw%4)) (fun _=>Bh (t:=5) (x:=Ot 40) (y:=(Operand.const (yV 4))) kr zw 4 kr kr om (zw%4) (EL om) _) ?_
 have B:=Rz (a:=zw) (b:=4) om om
 refine go [.v 1 39 (CD (zw%4)),.v 1 40 (oI (1+(zw%4)) ((zw%4)+1)),rd 1 42 1 6 1 c,.s 1 43]<|lw (yV (zw/4)) (fun _=>TT (t:=5) (x:=Ot 45) (y:=(Operand.const (yV 4))) kr zw 4 kr kr om (zw/4) (Xl om om om) _) ?_
 have C:=Ez (a:=(zw/4)) (b:=16) om om
 refine lw (yV ((zw/4)%16)) (fun _=>Bh (t:=5) (x:=Ot 46) (y:=(Operand.const (yV 16))) kr (zw/4) 16 kr kr om ((zw/4)%16) (EL om) _) ?_
 have D:=Ez (a:=zl) (b:=2) om om
 refine go [.v 1 45 (CD ((zw/4)%16)),.v 1 46 (oI (4+((zw/4)%16)) ((zw/4)%16+4)),rd 1 49 1 7 1 c,.s 1 50]<|lw (yV (zl%2)) (fun _=>Bh (t:=5) (x:=Ot 52) (y:=(Operand.const (yV 2))) kr zl 2 kr kr om (zl%2) (EL om) _) ?_
 by_cases E:(zl%2)=0
 ·
  refine lw (uV 1) (fun _=>LF (kk:= .u8) (t:=64) (x:=Ot 50) (y:=Ot 53) (z:=(zl%2)) (cs:= #[uV 1,uV 4294967293]) kr underlying64 underlying24 kr kr kr 0 om dc rfl _)<|g0<|sB [iV ((zo%16)+1),iV ((zm%4)+1),iV ((zt%8)+1),iV ((zt/8)%4+1),iV ((zq%4)+1),iV ((zu%8)+1),iV ((zb%4)+1),iV ((zw%4)+1),iV ((zw/4)%16+4),uV 1] c fun _ d=>⟨kd [],?_⟩
  refine g0 ?_
  exact en _ [rd 0 0 0 0 10 d] ⟨_,_,rfl,⟨1,om,rfl,rfl⟩,d.b.t1⟩
 refine lw (uV 4294967293) (fun _=>LF (kk:= .u8) (t:=64) (x:=Ot 50) (y:=Ot 53) (z:=(zl%2)) (cs:= #[uV 1,uV 4294967293]) kr underlying64 underlying24 kr kr kr 1 om dc rfl _)<|g0<|sB [iV ((zo%16)+1),iV ((zm%4)+1),iV ((zt%8)+1),iV ((zt/8)%4+1),iV ((zq%4)+1),iV ((zu%8)+1),iV ((zb%4)+1),iV ((zw%4)+1),iV ((zw/4)%16+4),uV 4294967293] c fun _ e=>⟨kd [],?_⟩
 refine g0 ?_
 exact en _ [rd 0 0 0 0 10 e] ⟨_,_,rfl,⟨4294967293,om,rfl,rfl⟩,e.b.t1⟩
theorem rN(zo zm zt zq zu zb zw zl:Int)(_:0≤zo)(_:0≤zm)(_:0≤zt)(_:0≤zq)(_:0≤zu)(_:0≤zb)(_:0≤zw)(_:0≤zl)(_:0≤ -zo+255)(_:0≤ -zm+255)(_:0≤ -zt+255)(_:0≤ -zq+255)(_:0≤ -zu+255)(_:0≤ -zb+255)(_:0≤ -zw+255)(_:0≤ -zl+255):HT prog 5 [.agg #[yV zo,yV zm,yV zt,yV zq,yV zu,yV zb,yV zw,yV zl]] [] (fun v K=> ∃(n m q:Nat) (zz yy mq bt ba cp fi:Int),((1≤n∧n≤16)∧(1≤m∧m≤4)∧(1≤q∧q≤4)∧(1≤zz∧zz≤8)∧(1≤yy∧yy≤4)∧(1≤mq∧mq≤8)∧(1≤bt∧bt≤4)∧(1≤ba∧ba≤4)∧(4≤cp∧cp≤19)∧(1≤fi∧fi≤4294967293))∧v=.agg #[iV n,iV m,iV zz,iV yy,iV q,iV mq,iV bt,iV ba,iV cp,uV fi]∧K= []):=by
 refine(rM zo zm zt zq zu zb zw zl om om om om om om om om om om om om om om om om).post ?_
 rintro v K ⟨fi,hf,rfl,rfl⟩
 have h1: ∃n:Nat,zo%16+1=(n:Int):=⟨(zo%16+1).toNat,by omega⟩
 have h2: ∃n:Nat,zm%4+1=(n:Int):=⟨(zm%4+1).toNat,by omega⟩
 have h3: ∃n:Nat,zq%4+1=(n:Int):=⟨(zq%4+1).toNat,by omega⟩
 obtain⟨n,hn⟩:=h1
 obtain⟨m,hm⟩:=h2
 obtain⟨q,hq⟩:=h3
 rw[hn,hm,hq]
 exact⟨_,⟨n,m,q,_,_,_,_,_,_,fi,⟨by omega,by omega,by omega,by omega,by omega,by omega,by omega,by omega,by omega,by omega⟩,rfl,rfl⟩,fun _ _ _ h=>h⟩
theorem Oz(J z A:Nat)(U:Option Addr)(V W:Nat)(X:Option Addr)(Y Z L M B N:Nat)(O P:Int)(q:Nat)(s c k l Q:Int)(C D F G:Nat)(m:Ts)(a:Wst)(t:Int)(I:E3)(o b:Int)(u:Ts)(e j:Int)(p:List UInt8)(y H:Ts)(S:Wst)(T:E3)(aa:(bV m 0).d=(1,0,o))(ab:(Aa m.E 0).isSome=true)(ac:Ba m (1,0,o)=0)(ad:(CR m (1,0,o)).num=b)(ae:EC m (1,0,o)=true)(af:Dw m (1,0,o)=u)(ag:AZ u b=⟨(1,e,j),1,0,0,0,p⟩)(ah:nE u b=0)(ai:CS u b ⟨(1,e,j),2,3,0,0,p⟩=0)(aj:Cc u b ⟨(1,e,j),2,3,0,0,p⟩=y)(ak:a.now=0)(al:Bo y a.now c= [b])(am:FK (⟨c,k,l⟩:Cf) a.now (y,a) [b])(an:EX (⟨c,k,l⟩:Cf) a.now (y,a) [b]=(H,S))(ao:D4 (⟨c,k,l⟩:Cf) a.now (y,a) [b]= [(⟨0,(1,e,j),3,1⟩:At)])(ap:Aa I (1,e,j)=some (p, -1,0,0,2))(aq:Au I (1,e,j) (p,t,0,3,3)=T)(_:0≤c-1)(_:0≤ -c+64)(_:0≤k-1)(_:0≤l-k)(_:0≤ -l+1048576)(_:0≤s-1)(_:0≤o-1)(_:0≤ -o+4294967295)(_:0≤e)(_:0≤ -e+63)(_:0≤j-1)(_:0≤ -j+4294967295)(_:0≤(Ag p))(_:0≤ -(Ag p))(_:0≤t)(_:0≤ -t+9999)(_:0≤(q:Int)-1)(_:0≤ -(q:Int)+64)(_:0≤(H.R.length:Int)-(((AT H.R 3).length:Nat):Int)):HT prog 86 [pV J,.agg #[iV 14,iV 0,iV 0,iV 0,iV 0,sV []]] [Cl J [iV z,pV A,.slice U V W,.slice X Y Z] 70,AU A L M B N z O P q s c k l Q C D F G,F1 B q,TW C 256 m,Wd D a,Cl F [iV s,pO] 191,Bj G t I] (fun v K=> ∃ar:Int,v= .agg #[iV 0,iV 0]∧K= [Cl J [iV z,pV A,.slice U V W,.slice X Y Z] 70,AU A L M B N z O P q s c k l Q C D F G,Bl B q ar,TW C 256 H,Wd D S,Cl F [iV s,pO] 191,Bj G (t+1) T]):=by
 refine AC func86 ntmps86 fun g w0 R h0=>g0<|nP 37 [iV 14,iV 0,iV 0,iV 0,iV 0,sV []] h0 (fun _ _ aw=> ?_)
 refine nP 34 [iV 0,iV 0] aw (fun _ _ au=> ?_)
 have ax:=au.h.h.h.h.h.h.t10
 refine go [rd 1 3 2 1 1 au]<|cP call143 (rI A L M B N z O P q s c k l Q C D F G m u y H a S I T p t b e j o aa ab ac ad ae af ag ah ai aj ak al am an ao ap aq om om om om om om om om om om om om om om om om om om om) ax ?_
 rintro v K _ (⟨ar,ba,bb,rfl,rfl⟩) ay
 have az:=(IW ay).x.t11
 refine g0<|sA [iV 0,iV 0] az fun _ av=>g0 ?_
 exact en _ [rd 0 0 0 0 2 av] ⟨_,_,rfl,⟨ar,rfl,rfl⟩,av.f.f.f.f.f.f.i.t11.j.x.x.x.x.x.x.x.t8⟩
theorem Ws(M C D:Nat)(O:Option Addr)(P Q:Nat)(S:Option Addr)(T U V W F X:Nat)(Y Z:Int)(s:Nat)(u c k l aa:Int)(G H I J:Nat)(o:Ts)(a:Wst)(y:Int)(N:E3)(p b:Int)(A:Ts)(e f:Int)(q:List UInt8)(B L:Ts)(ab:Wst)(ac:E3)(ad:(bV o 0).d=(1,0,p))(ae:(Aa o.E 0).isSome=true)(af:Ba o (1,0,p)=0)(ag:(CR o (1,0,p)).num=b)(ah:EC o (1,0,p)=true)(ai:Dw o (1,0,p)=A)(aj:AZ A b=⟨(1,e,f),1,0,0,0,q⟩)(ak:nE A b=0)(al:CS A b ⟨(1,e,f),2,3,0,0,q⟩=0)(am:Cc A b ⟨(1,e,f),2,3,0,0,q⟩=B)(ao:a.now=0)(ap:Bo B a.now c= [b])(aq:FK (⟨c,k,l⟩:Cf) a.now (B,a) [b])(ar:EX (⟨c,k,l⟩:Cf) a.now (B,a) [b]=(L,ab))(au:D4 (⟨c,k,l⟩:Cf) a.now (B,a) [b]= [(⟨0,(1,e,f),3,1⟩:At)])(av:Aa N (1,e,f)=some (q, -1,0,0,2))(aw:Au N (1,e,f) (q,y,0,3,3)=ac)(_:0≤c-1)(_:0≤ -c+64)(_:0≤k-1)(_:0≤l-k)(_:0≤ -l+1048576)(_:0≤u-1)(_:0≤p-1)(_:0≤ -p+4294967295)(_:0≤e)(_:0≤ -e+63)(_:0≤f-1)(_:0≤ -f+4294967295)(_:0≤(Ag q))(_:0≤ -(Ag q))(_:0≤y)(_:0≤ -y+9999)(_:0≤(s:Int)-1)(_:0≤ -(s:Int)+64)(_:0≤(L.R.length:Int)-(((AT L.R 3).length:Nat):Int)):HT prog 18 [pV M,.agg #[iV 14,iV 0,iV 0,iV 0,iV 0,sV []]] [Cl M [iV C,pV D,.slice O P Q,.slice S T U] 70,AU D V W F X C Y Z s u c k l aa G H I J,F1 F s,TW G 256 o,Wd H a,Cl I [iV u,pO] 191,Bj J y N] (fun v K=> ∃ay:Int,v= .agg #[iV 0,iV 0]∧K= [Cl M [iV C,pV D,.slice O P Q,.slice S T U] 70,AU D V W F X C Y Z s u c k l aa G H I J,Bl F s ay,TW G 256 L,Wd H ab,Cl I [iV u,pO] 191,Bj J (y+1) ac]):=by
 refine AC func18 ntmps18 fun g w0 R h0=>g0<|nP 37 [iV 14,iV 0,iV 0,iV 0,iV 0,sV []] h0 (fun _ _ be=> ?_)
 refine nP 34 [iV 0,iV 0] be (fun _ _ az=> ?_)
 refine go [rd 1 0 1 0 6 az]<|AP call34 Jp az fun _ bf=>g0<|dw (AE [0,1] (Tr.an 2 (AE [3,4,5,6,7,8,9,10,11,12] Tr.nil))) bf fun _ ba=>go [rd 3 1 1 0 1 ba]<|CJ call35 ON ba fun _ bg=>⟨kd [],?_⟩
 refine g0<|dw (AE [0,1] (Tr.an 2 (AE [3,4,5,6,7,8,9,10,11,12,13] Tr.nil))) bg fun _ bb=>go [rd 4 1 1 0 1 bb]<|CJ call36 OQ bb fun _ bh=>⟨kd [],?_⟩
 refine g0<|dw (AE [1,2] (Tr.an 0 (Tr.an 3 (AE [4,5,6,7,8] Tr.nil)))) bh fun _ bc=>go [rd 6 2 1 0 1 bc]<|cG call37 Aq bc ?_
 rintro v K _ (⟨bl,rfl,rfl⟩) bi
 have ax:=B3 bi
 refine⟨kd [rd 0 2 2 0 1 ax],?_⟩
 refine AH ?_
 refine AX (d:=43) (.tuple #[.func (Fn.func 86) #[] #[],bT]) kr rfl (BN (t:=106) (z:=Value.nilFunc) (m:=Ot 40) (x:=Ot 42) (kv:=kI) (ve:=vF) kr underlying106 Dc kr 14 kr kr (j:=0) ax rfl (.func (Fn.func 86) #[] #[]) 86 (AG om (AG om (AG om (AG om (AG om (AG om (AG om (Bz rfl)))))))) rfl) ?_
 refine⟨kd [],DE ?_⟩
 have bj:=ax.i.i.i.i.i.i.i.t11
 refine go [rd 8 2 2 0 6 ax]<|cP call86 (Oz M C D O P Q S T U V W F X Y Z s u c k l aa G H I J o a y N p b A e f q B L ab ac ad ae af ag ah ai aj ak al am ao ap aq ar au av aw om om om om om om om om om om om om om om om om om om om) bj ?_
 rintro v K _ (⟨ay,rfl,rfl⟩) bk
 refine sA [iV 0,iV 0] ((IW bk).h.t11) fun _ bd=>g0 ?_
 exact en _ [rd 0 0 0 0 2 bd] ⟨_,_,rfl,⟨ay,rfl,rfl⟩,bd.x.x.x.x.x.x.x.t11.j.x.x.x.x.x.x.x.t8⟩
theorem aT(mb rg ar yc rq n m:Nat)(zz yy:Int)(q:Nat)(mq bt ba cp fi:Int)(tb wd qo lk:Nat)(D:List Ky)(nr:Nat)(S S2 S3 S4:Ts)(W W2:Wst)(E E2:E3)(L:List UInt8)(tz nz oz og dg:Int)(hA:(bV S 0).d=(1,0,dg))(hB:(Aa S.E 0).isSome=true)(hF:Ba S (1,0,dg)=0)(hN:(CR S (1,0,dg)).num=nz)(hL:EC S (1,0,dg)=true)(hS1:Dw S (1,0,dg)=S2)(hG:AZ S2 nz=⟨(1,oz,og),1,0,0,0,L⟩)(hE:nE S2 nz=0)(hX:CS S2 nz ⟨(1,oz,og),2,3,0,0,L⟩=0)(hY:Cc S2 nz ⟨(1,oz,og),2,3,0,0,L⟩=S3)(hW:W.now=0)(hd:Bo S3 W.now bt= [nz])(hr:FK (⟨bt,ba,cp⟩:Cf) W.now (S3,W) [nz])(hp:EX (⟨bt,ba,cp⟩:Cf) W.now (S3,W) [nz]=(S4,W2))(ha:D4 (⟨bt,ba,cp⟩:Cf) W.now (S3,W) [nz]= [(⟨0,(1,oz,og),3,1⟩:At)])(hT:Aa E (1,oz,og)=some (L, -1,0,0,2))(hU:Au E (1,oz,og) (L,tz,0,3,3)=E2)(_:0≤ -(nr:Int)+99999)(_:0≤bt-1)(_:0≤ -bt+64)(_:0≤ba-1)(_:0≤cp-ba)(_:0≤ -cp+1048576)(_:0≤mq-1)(_:0≤dg-1)(_:0≤ -dg+4294967295)(_:0≤oz)(_:0≤ -oz+63)(_:0≤og-1)(_:0≤ -og+4294967295)(_:0≤(Ag L))(_:0≤ -(Ag L))(_:0≤tz)(_:0≤ -tz+9999)(_:0≤(q:Int)-1)(_:0≤ -(q:Int)+64)(_:0≤(S4.R.length:Int)-(((AT S4.R 3).length:Nat):Int)):HT prog 7 [pV mb,.agg #[iV 14,iV 0,iV 0,iV 0,iV 0,sV []]] [BU mb rg m D nr,AU rg ar yc rq n m zz yy q mq bt ba cp fi tb wd qo lk,F1 rq q,TW tb 256 S,Wd wd W,Cl qo [iV mq,pO] 191,Bj lk tz E] (fun v K=> ∃z9:Int,v= .agg #[iV 0,iV 0]∧K= [BU mb rg m D (nr+1),AU rg ar yc rq n m zz yy q mq bt ba cp fi tb wd qo lk,Bl rq q z9,TW tb 256 S4,Wd wd W2,Cl qo [iV mq,pO] 191,Bj lk (tz+1) E2]):=by
 refine AC func7 ntmps7 fun g w0 R h0=> ?_
 obtain⟨a,e,o,p,y,ab,ac,H⟩:=BX h0
 have I:sat g _ (Cl mb [iV m,pV rg,.slice a D.length e,.slice o nr p] 70::_):=H
 refine g0<|nP 37 [iV 14,iV 0,iV 0,iV 0,iV 0,sV []] I (fun ad _ J=> ?_)
 refine nP 34 [iV 0,iV 0] J (fun ae _ M=> ?_)
 have N:=M.b.t12
 refine g0<|AF call17 (Ai mb m rg a D.length e o nr p) N fun _ z=> ?_
 have O:=z.j.j.j.j.j.j.f.t12
 refine go [rd 3 1 2 0 6 z]<|cP call18 (Ws mb m rg a D.length e o nr p ar yc rq n zz yy q mq bt ba cp fi tb wd qo lk S W tz E dg nz S2 oz og L S3 S4 W2 E2 hA hB hF hN hL hS1 hG hE hX hY hW hd hr hp ha hT hU om om om om om om om om om om om om om om om om om om om) O ?_
 rintro v K _ (⟨P,rfl,rfl⟩) Q
 refine nP 34 [iV 0,iV 0] (IW Q) (fun af _ T=> ?_)
 refine sA [iV 0,iV 0] T fun _ U=>g0<|dw (AE [0,1,2,3,4,5] (Tr.an 6 (Tr.an 7 (AE [8,9] (Tr.an 10 Tr.nil))))) U fun _ u=>go [rd 4 4 1 3 1 u,rd 4 5 0 0 2 u]<|nG (fun q_=> .slice (some ⟨q_,0,none⟩) 1 1) 34 [iV 0,iV 0] u (fun V _ A=>⟨kd [rd 0 4 2 3 1 A],?_⟩)
 have B:=A.l.t14
 refine AH ?_
 refine aA 20 2 (Ot 17) (Ot 19) (.agg #[iV 0,iV 0]) o nr p 1 1 (⟨V,0,none⟩) 16 underlying68 B (fl Fo [(0,0)]) rfl (Br B rfl) (Aw Cx _) (nr+1) ?_
 intro s t ag X
 have C:sat g _ (Sl 34 2 s (nr+1) t (fl Fo (y++ [(0,0)]))::_):=sJ X
 obtain⟨ah,ai⟩:=BH C
 refine⟨kd [],DE ?_⟩
 have Y:=C.c.t14
 refine g0<|sG [(3,.slice s (nr+1) t)] [iV m,pV rg,.slice a D.length e,.slice s (nr+1) t] Y fun _ F=>⟨kd [],?_⟩
 have Z:=F.j.t14
 refine go [rd 5 0 3 0 2 F]<|sA [iV 0,iV 0] Z fun aj G=>g0 ?_
 have aa:sat g _ (BU mb rg m D (nr+1)::_):=BC mb rg m D (nr+1) a e s t (y++ [(0,0)]) om om G.b.l.c.t14
 exact en _ [rd 0 0 0 0 2 G] ⟨_,_,rfl,⟨P,rfl,rfl⟩,aa.i.i.i.i.i.i.f.t12.k.x.x.x.x.x.x.x.t8⟩
theorem wY(mb rg ar yc rq n m:Nat)(zz yy:Int)(q:Nat)(mq bt ba cp fi:Int)(tb wd qo lk:Nat)(D:List Ky)(nr:Nat)(A:List AM)(ec at_ nx bg:Int)(S:Ts)(W:Wst)(f tz oz og:Int)(L:List UInt8)(qz wy:Int)(_:0≤mq-1)(_:0≤ -mq+256):HT prog 13 [pV mb] [BU mb rg m D nr,AU rg ar yc rq n m zz yy q mq bt ba cp fi tb wd qo lk,B2 ar n m A,Cy yc n m 0 ec 0 at_ nx bg,Bl rq q f,TW tb 256 S,Wd wd W,Cl qo [iV mq,pO] 191,Bj lk tz [((1,oz,og),(L,qz,0,wy,3))]] (fun v K=> ∃i:Nat,∃C:Nat,∃E:Nat,∃F:Nat,∃k:Nat,∃G:Nat,∃H:Nat,∃l:Nat,v=pV i∧K= [AU i C E F n m zz yy q mq bt ba cp fi k G H l,TW k 256 S,Bj l tz [((1,oz,og),(L,qz,0,wy,3))],BU mb rg m D nr,AU rg ar yc rq n m zz yy q mq bt ba cp fi tb wd qo lk,B2 ar n m A,Cy yc n m 0 ec 0 at_ nx bg,Bl rq q f,TW tb 256 S,Wd wd W,Cl qo [iV mq,pO] 191,Bj lk tz [((1,oz,og),(L,qz,0,wy,3))]]):=by
 refine AC func13 ntmps13 fun g w0 R h0=> ?_
 obtain⟨a,b,d,e,I,J,M,N⟩:=BX h0
 have O:sat g _ (Cl mb [iV m,pV rg,.slice a D.length b,.slice d nr e] 70::_):=N
 refine g0<|AF call17 (Ai mb m rg a D.length b d nr e) O fun _ o=> ?_
 have P:=o.j.j.j.j.j.j.j.j.t12
 refine go [rd 3 3 0 1 1 o]<|cP call22 (rL rg ar yc rq n m zz yy q mq bt ba cp fi tb wd qo lk A ec at_ nx bg S W f tz oz og L qz wy om om) P ?_
 rintro v K V (⟨p,s,t,u,x,y,z,B,rfl,rfl⟩) Q
 have T:sat g _ (AU p s t u n m zz yy q mq bt ba cp fi x y z B::_):=Q
 refine g0 ?_
 have U:sat g _ (BU mb rg m D nr::_):=BC mb rg m D nr a b d e I J M T.m.m.m.t15
 exact en _ [] ⟨_,_,rfl,⟨p,s,t,u,x,y,z,B,rfl,rfl⟩,U.c.c.c.t13⟩
end Go.Proofs.YtcgkoffnknpgjaaGreatDoor
