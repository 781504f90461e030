/- Walks, printed by my generator t20.py. -/
import Derived.Test.YtcgkoffnknpgjaaGreatDoorBundle40x
namespace Go.Proofs.YtcgkoffnknpgjaaGreatDoor
set_option linter.unusedVariables false
set_option linter.unusedSimpArgs false
open Tryz
set_option maxHeartbeats 4000000
def Uw(b rg m:Nat)(D:List Ky)(nr:Nat)(p1:Option Addr)(c1:Nat)(p2:Option Addr)(c2:Nat)(rl:List (Int×Int)):List AB:= [Cl b [iV m,pV rg,Value.slice p1 D.length c1,Value.slice p2 nr c2] 70,Sl 39 3 p1 D.length c1 (fl eO D),Sl 34 2 p2 nr c2 (fl Fo rl)]
def BU(b rg m:Nat)(D:List Ky)(nr:Nat):AB:=fun h=> ∃p1:Option Addr,∃c1:Nat,∃p2:Option Addr,∃c2:Nat,∃rl:List (Int×Int),(nr≤100000)∧(D.length≤2000)∧Aj (Uw b rg m D nr p1 c1 p2 c2 rl) h
theorem BX{g w:World}{L_:List AB}{b:Nat}{rg:Nat}{m:Nat}{D:List Ky}{nr:Nat}(h:sat g w (BU b rg m D nr::L_)): ∃a:Option Addr,∃c:Nat,∃d:Option Addr,∃e:Nat,∃rl:List (Int×Int),(nr≤100000)∧(D.length≤2000)∧sat g w (Uw b rg m D nr a c d e rl++L_):=by
 obtain⟨⟨a,c,d,e,rl⟩,hp,h2⟩:=Af (X:=(Option Addr)×Nat×(Option Addr)×Nat×(List (Int×Int))) (p:=fun q_=>(nr≤100000)∧(D.length≤2000)) (B:=fun q_=>Aj (Uw b rg m D nr q_.1 q_.2.1 q_.2.2.1 q_.2.2.2.1 q_.2.2.2.2)) h (fun _ hk=>by obtain⟨a,c,d,e,rl,f,i,hk⟩:=hk;exact⟨(a,c,d,e,rl),⟨f,i⟩,hk⟩)
 exact⟨a,c,d,e,rl,hp.1,hp.2,AK h2⟩
theorem BC{g w:World}{L_:List AB}(b rg m:Nat)(D:List Ky)(nr:Nat)(a:Option Addr)(c1:Nat)(c:Option Addr)(c2:Nat)(rl:List (Int×Int))(d:nr≤100000)(e:D.length≤2000)(h:sat g w (Uw b rg m D nr a c1 c c2 rl++L_)):sat g w (BU b rg m D nr::L_):=AI (AO h) fun _ hk=>⟨a,c1,c,c2,rl,d,e,hk⟩
theorem Ai(a b c:Nat)(d:Option Addr)(e f:Nat)(i:Option Addr)(j k:Nat):HQ 17 [pV a] [Cl a [iV b,pV c,.slice d e f,.slice i j k] 70] (bT) [Cl a [iV b,pV c,.slice d e f,.slice i j k] 70]:=by
 refine AC func17 ntmps17 fun g w0 R l=>go [rd 1 6 0 1 1 l] ?_
 exact AD _ [] l
theorem Aq:HT prog 37 [] [] (fun v K=> ∃a:Nat,v= .map (some a)∧K= [Gp kI vF a ([(7,79),(8,80),(9,81),(10,82),(11,83),(12,84),(13,85),(14,86),(15,87),(16,88),(17,89)]:List (Int×Nat))]):=by
 refine AC func37 ntmps37 fun g w0 R h0=>g0 ?_
 refine AH ?_
 refine Bw (t:=106) (d:=1) kI vF kr kr rfl h0 ?_
 intro a _ b
 refine B1 ?_
 refine AH ?_
 refine CV (t:=106) (m:=Ot 1) (x:=(Operand.const (iV 7))) (y:=(Operand.func 79)) (kv:=kI) (ve:=vF) kr kr underlying106 Dc 7 79 kr kr kr b ([(7,79)]:List (Int×Nat)) rfl ?_
 intro _ c
 refine Gq ?_
 refine AH ?_
 refine CV (t:=106) (m:=Ot 1) (x:=(Operand.const (iV 8))) (y:=(Operand.func 80)) (kv:=kI) (ve:=vF) kr kr underlying106 Dc 8 80 kr kr kr c ([(7,79),(8,80)]:List (Int×Nat)) (AQ om rfl) ?_
 intro _ e
 refine Gq ?_
 refine AH ?_
 refine CV (t:=106) (m:=Ot 1) (x:=(Operand.const (iV 9))) (y:=(Operand.func 81)) (kv:=kI) (ve:=vF) kr kr underlying106 Dc 9 81 kr kr kr e ([(7,79),(8,80),(9,81)]:List (Int×Nat)) (AQ om (AQ om rfl)) ?_
 intro _ f
 refine Gq ?_
 refine AH ?_
 refine CV (t:=106) (m:=Ot 1) (x:=(Operand.const (iV 10))) (y:=(Operand.func 82)) (kv:=kI) (ve:=vF) kr kr underlying106 Dc 10 82 kr kr kr f ([(7,79),(8,80),(9,81),(10,82)]:List (Int×Nat)) (AQ om (AQ om (AQ om rfl))) ?_
 intro _ i
 refine Gq ?_
 refine AH ?_
 refine CV (t:=106) (m:=Ot 1) (x:=(Operand.const (iV 11))) (y:=(Operand.func 83)) (kv:=kI) (ve:=vF) kr kr underlying106 Dc 11 83 kr kr kr i ([(7,79),(8,80),(9,81),(10,82),(11,83)]:List (Int×Nat)) (AQ om (AQ om (AQ om (AQ om rfl)))) ?_
 intro _ j
 refine Gq ?_
 refine AH ?_
 refine CV (t:=106) (m:=Ot 1) (x:=(Operand.const (iV 12))) (y:=(Operand.func 84)) (kv:=kI) (ve:=vF) kr kr underlying106 Dc 12 84 kr kr kr j ([(7,79),(8,80),(9,81),(10,82),(11,83),(12,84)]:List (Int×Nat)) (AQ om (AQ om (AQ om (AQ om (AQ om rfl))))) ?_
 intro _ k
 refine Gq ?_
 refine AH ?_
 refine CV (t:=106) (m:=Ot 1) (x:=(Operand.const (iV 13))) (y:=(Operand.func 85)) (kv:=kI) (ve:=vF) kr kr underlying106 Dc 13 85 kr kr kr k ([(7,79),(8,80),(9,81),(10,82),(11,83),(12,84),(13,85)]:List (Int×Nat)) (AQ om (AQ om (AQ om (AQ om (AQ om (AQ om rfl)))))) ?_
 intro _ l
 refine Gq ?_
 refine AH ?_
 refine CV (t:=106) (m:=Ot 1) (x:=(Operand.const (iV 14))) (y:=(Operand.func 86)) (kv:=kI) (ve:=vF) kr kr underlying106 Dc 14 86 kr kr kr l ([(7,79),(8,80),(9,81),(10,82),(11,83),(12,84),(13,85),(14,86)]:List (Int×Nat)) (AQ om (AQ om (AQ om (AQ om (AQ om (AQ om (AQ om rfl))))))) ?_
 intro _ o
 refine Gq ?_
 refine AH ?_
 refine CV (t:=106) (m:=Ot 1) (x:=(Operand.const (iV 15))) (y:=(Operand.func 87)) (kv:=kI) (ve:=vF) kr kr underlying106 Dc 15 87 kr kr kr o ([(7,79),(8,80),(9,81),(10,82),(11,83),(12,84),(13,85),(14,86),(15,87)]:List (Int×Nat)) (AQ om (AQ om (AQ om (AQ om (AQ om (AQ om (AQ om (AQ om rfl)))))))) ?_
 intro _ p
 refine Gq ?_
 refine AH ?_
 refine CV (t:=106) (m:=Ot 1) (x:=(Operand.const (iV 16))) (y:=(Operand.func 88)) (kv:=kI) (ve:=vF) kr kr underlying106 Dc 16 88 kr kr kr p ([(7,79),(8,80),(9,81),(10,82),(11,83),(12,84),(13,85),(14,86),(15,87),(16,88)]:List (Int×Nat)) (AQ om (AQ om (AQ om (AQ om (AQ om (AQ om (AQ om (AQ om (AQ om rfl))))))))) ?_
 intro _ q
 refine Gq ?_
 refine AH ?_
 refine CV (t:=106) (m:=Ot 1) (x:=(Operand.const (iV 17))) (y:=(Operand.func 89)) (kv:=kI) (ve:=vF) kr kr underlying106 Dc 17 89 kr kr kr q ([(7,79),(8,80),(9,81),(10,82),(11,83),(12,84),(13,85),(14,86),(15,87),(16,88),(17,89)]:List (Int×Nat)) (AQ om (AQ om (AQ om (AQ om (AQ om (AQ om (AQ om (AQ om (AQ om (AQ om rfl)))))))))) ?_
 intro _ s
 refine Gq<|g0 ?_
 exact en _ [] ⟨_,_,rfl,⟨a,rfl,rfl⟩,s⟩
theorem Ol(j a c:Nat)(F:Option Addr)(G H:Nat)(I:Option Addr)(J L k e l f:Nat)(m o:Int)(p:Nat)(q s t u x:Int)(y z A B:Nat)(C M D E i:Int)(_:0≤i)(_:0≤ -i+1000000):HQ 88 [pV j,.agg #[iV 16,iV 0,iV 0,iV 0,iV 0,sV []]] [Cl j [iV a,pV c,.slice F G H,.slice I J L] 70,AU c k e l f a m o p q s t u x y z A B,Cy e f a 0 C M D E i] (.agg #[iV 0,iV 0]) [Cl j [iV a,pV c,.slice F G H,.slice I J L] 70,AU c k e l f a m o p q s t u x y z A B,Cy e f a 1 C 0 D E (i+1)]:=by
 refine AC func88 ntmps88 fun g w0 R h0=>g0<|nP 37 [iV 16,iV 0,iV 0,iV 0,iV 0,sV []] h0 (fun _ _ P=> ?_)
 refine nP 34 [iV 0,iV 0] P (fun _ _ N=> ?_)
 have Q:=N.d.d.t6
 refine go [rd 1 3 2 1 1 N]<|DF call145 (wD c k e l f a m o p q s t u x y z A B C M D E i om om) Q fun _ S=> ?_
 have T:=S.b.t6
 refine g0<|sA [iV 0,iV 0] T fun _ O=>g0 ?_
 exact AD _ [rd 0 0 0 0 2 O] O.b.b.d.t6.e.c.c.c.t4
theorem Wc(l a b:Nat)(o:Option Addr)(p q:Nat)(s:Option Addr)(u y A f B i:Nat)(C D:Int)(E:Nat)(F G H I J:Int)(L M N O:Nat)(P T Q S k:Int)(_:0≤k)(_:0≤ -k+1000000):HQ 18 [pV l,.agg #[iV 16,iV 0,iV 0,iV 0,iV 0,sV []]] [Cl l [iV a,pV b,.slice o p q,.slice s u y] 70,AU b A f B i a C D E F G H I J L M N O,Cy f i a 0 P T Q S k] (.agg #[iV 0,iV 0]) [Cl l [iV a,pV b,.slice o p q,.slice s u y] 70,AU b A f B i a C D E F G H I J L M N O,Cy f i a 1 P 0 Q S (k+1)]:=by
 refine AC func18 ntmps18 fun g w0 R h0=>g0<|nP 37 [iV 16,iV 0,iV 0,iV 0,iV 0,sV []] h0 (fun _ _ aa=> ?_)
 refine nP 34 [iV 0,iV 0] aa (fun _ _ V=> ?_)
 refine go [rd 1 0 1 0 6 V]<|AP call34 iQ V fun _ ab=>g0<|dw (AE [0,1] (Tr.an 2 (AE [3,4,5,6,7,8,9,10,11,12] Tr.nil))) ab fun _ W=>go [rd 3 1 1 0 1 W]<|CJ call35 qD W fun _ ac=>⟨kd [],?_⟩
 refine g0<|dw (AE [0,1] (Tr.an 2 (AE [3,4,5,6,7,8,9,10,11,12,13] Tr.nil))) ac fun _ X=>go [rd 4 1 1 0 1 X]<|CJ call36 qE X fun _ ad=>⟨kd [],?_⟩
 refine g0<|dw (AE [1,2] (Tr.an 0 (Tr.an 3 (AE [4,5,6,7,8] Tr.nil)))) ad fun _ Y=>go [rd 6 2 1 0 1 Y]<|cG call37 Aq Y ?_
 rintro v K _ (⟨ah,rfl,rfl⟩) ae
 have U:=B3 ae
 refine⟨kd [rd 0 2 2 0 1 U],?_⟩
 refine AH ?_
 refine AX (d:=43) (.tuple #[.func (Fn.func 88) #[] #[],bT]) kr rfl (BN (t:=106) (z:=Value.nilFunc) (m:=Ot 40) (x:=Ot 42) (kv:=kI) (ve:=vF) kr underlying106 Dc kr 16 kr kr (j:=0) U rfl (.func (Fn.func 88) #[] #[]) 88 (AG om (AG om (AG om (AG om (AG om (AG om (AG om (AG om (AG om (Bz rfl)))))))))) rfl) ?_
 refine⟨kd [],DE ?_⟩
 have af:=U.e.e.e.t7
 refine go [rd 8 2 2 0 6 U]<|IM call88 (Ol l a b o p q s u y A f B i C D E F G H I J L M N O P T Q S k om om) af fun _ ag=>sA [iV 0,iV 0] ag.d.t7 fun _ Z=>g0 ?_
 exact AD _ [rd 0 0 0 0 2 Z] Z.c.c.c.t7.f.c.c.c.t4
theorem jM(mb rg ar yc rq n m:Nat)(zz yy:Int)(q:Nat)(mq bt ba cp fi:Int)(tb wd qo lk:Nat)(D:List Ky)(nr:Nat)(ec sn at_ nx bg:Int)(_:0≤ -(nr:Int)+99999)(_:0≤bg)(_:0≤ -bg+1000000):HQ 7 [pV mb,.agg #[iV 16,iV 0,iV 0,iV 0,iV 0,sV []]] [BU mb rg m D nr,AU rg ar yc rq n m zz yy q mq bt ba cp fi tb wd qo lk,Cy yc n m 0 ec sn at_ nx bg] (.agg #[iV 0,iV 0]) [BU mb rg m D (nr+1),AU rg ar yc rq n m zz yy q mq bt ba cp fi tb wd qo lk,Cy yc n m 1 ec 0 at_ nx (bg+1)]:=by
 refine AC func7 ntmps7 fun g w0 R h0=> ?_
 obtain⟨a,d,i,j,p,S,T,B⟩:=BX h0
 have C:sat g _ (Cl mb [iV m,pV rg,.slice a D.length d,.slice i nr j] 70::_):=B
 refine g0<|nP 37 [iV 16,iV 0,iV 0,iV 0,iV 0,sV []] C (fun U _ E=> ?_)
 refine nP 34 [iV 0,iV 0] E (fun V _ F=> ?_)
 have G:=F.b.t8
 refine g0<|AF call17 (Ai mb m rg a D.length d i nr j) G fun _ s=> ?_
 have H:=s.f.f.b.t8
 refine go [rd 3 1 2 0 6 s]<|IM call18 (Wc mb m rg a D.length d i nr j ar yc rq n zz yy q mq bt ba cp fi tb wd qo lk ec sn at_ nx bg om om) H fun _ I=>nP 34 [iV 0,iV 0] I (fun W _ J=> ?_)
 refine sA [iV 0,iV 0] J fun _ L=>g0<|dw (AE [0,1,2,3,4,5] (Tr.an 6 (Tr.an 7 (AE [8,9] (Tr.an 10 Tr.nil))))) L fun _ o=>go [rd 4 4 1 3 1 o,rd 4 5 0 0 2 o]<|nG (fun q_=> .slice (some ⟨q_,0,none⟩) 1 1) 34 [iV 0,iV 0] o (fun M _ t=>⟨kd [rd 0 4 2 3 1 t],?_⟩)
 have u:=t.h.t10
 refine AH ?_
 refine aA 20 2 (Ot 17) (Ot 19) (.agg #[iV 0,iV 0]) i nr j 1 1 (⟨M,0,none⟩) 16 underlying68 u (fl Fo [(0,0)]) rfl (Br u rfl) (Aw Cx _) (nr+1) ?_
 intro k l X N
 have y:sat g _ (Sl 34 2 k (nr+1) l (fl Fo (p++ [(0,0)]))::_):=sJ N
 obtain⟨Y,Z⟩:=BH y
 refine⟨kd [],DE ?_⟩
 have O:=y.c.t10
 refine g0<|sG [(3,.slice k (nr+1) l)] [iV m,pV rg,.slice a D.length d,.slice k (nr+1) l] O fun _ z=>⟨kd [],?_⟩
 have P:=z.f.t10
 refine go [rd 5 0 3 0 2 z]<|sA [iV 0,iV 0] P fun aa A=>g0 ?_
 have Q:sat g _ (BU mb rg m D (nr+1)::_):=BC mb rg m D (nr+1) a d k l (p++ [(0,0)]) om om A.b.h.c.t10
 exact AD _ [rd 0 0 0 0 2 A] Q.e.e.b.t8.x.c.c.c.t4
theorem We(l a f:Nat)(M:Option Addr)(N O:Nat)(P:Option Addr)(Q S i o p k:Nat)(q s:Int)(u:Nat)(y A B C D:Int)(E F G H:Nat)(I:List AM)(J:Nat)(L:Int)(_:0≤(a:Int)-1):HQ 18 [pV l,.agg #[iV 4,iV 0,iV 0,iV 0,iV 0,sV []]] [Cl l [iV a,pV f,.slice M N O,.slice P Q S] 70,AU f i o p k a q s u y A B C D E F G H,RY i k a I J L] (.agg #[iV 0,iV 0]) [Cl l [iV a,pV f,.slice M N O,.slice P Q S] 70,AU f i o p k a q s u y A B C D E F G H,BY i k a I J L]:=by
 refine AC func18 ntmps18 fun g w0 R h0=>g0<|nP 37 [iV 4,iV 0,iV 0,iV 0,iV 0,sV []] h0 (fun _ _ ab=> ?_)
 refine nP 34 [iV 0,iV 0] ab (fun _ _ W=> ?_)
 refine go [rd 1 0 1 0 6 W]<|AP call34 Zm W fun _ ac=>g0<|dw (AE [0,1] (Tr.an 2 (AE [3,4,5,6,7,8,9,10,11,12] Tr.nil))) ac fun _ X=>go [rd 3 1 1 0 1 X]<|CJ call35 vB X fun _ T=>⟨kd [],?_⟩
 refine go [rd 3 5 1 1 1 T,rd 3 9 2 0 1 T,.v 3 10 (oF (0≥(a:Int)))]<|dw (AE [0,1] (Tr.an 2 (AE [3,4,5,6,7,8,9,10,11,12,13] Tr.nil))) T fun _ Y=>go [rd 4 1 1 0 1 Y]<|CJ call36 vG Y fun _ ad=>⟨kd [],?_⟩
 refine g0<|dw (AE [1,2] (Tr.an 0 (Tr.an 3 (AE [4,5,6,7,8] Tr.nil)))) ad fun _ Z=>go [rd 6 2 1 0 1 Z]<|cG call37 Aq Z ?_
 rintro v K _ (⟨ai,rfl,rfl⟩) ae
 have U:=B3 ae
 refine⟨kd [rd 0 2 2 0 1 U],?_⟩
 refine AH ?_
 refine AX (d:=43) (.tuple #[Value.nilFunc,bF]) kr rfl (Et (t:=106) (z:=Value.nilFunc) (m:=Ot 40) (x:=Ot 42) (kv:=kI) (ve:=vF) kr underlying106 Dc kr 4 kr kr (j:=0) U rfl (AG om (AG om (AG om (AG om (AG om (AG om (AG om (AG om (AG om (AG om (AG om rfl)))))))))))) ?_
 refine⟨kd [],DE ?_⟩
 refine g0<|dw (AE [0,1,2,3,4] (Tr.an 5 (Tr.fl 6 (Tr.an 7 Tr.nil)))) U fun _ V=> ?_
 have af:=V.e.e.t7
 refine go [rd 9 3 3 1 1 V,rd 9 4 2 0 6 V]<|FN call38 (qT f i o p k a q s u y A B C D E F G H I J L om) af fun _ ag=>⟨kd [],?_⟩
 have ah:=ag.c.t7
 refine g0<|sB [iV 0,iV 0] ah fun _ aa=>⟨kd [],?_⟩
 refine g0 ?_
 exact AD _ [rd 0 0 0 0 2 aa] aa.b.b.e.t7.f.c.c.c.t4
theorem aD(mb rg ar yc rq n m:Nat)(zz yy:Int)(q:Nat)(mq bt ba cp fi:Int)(tb wd qo lk:Nat)(D:List Ky)(nr:Nat)(A:List AM)(s:Nat)(gn:Int)(_:0≤ -(nr:Int)+99999)(_:0≤(m:Int)-1):HQ 7 [pV mb,.agg #[iV 4,iV 0,iV 0,iV 0,iV 0,sV []]] [BU mb rg m D nr,AU rg ar yc rq n m zz yy q mq bt ba cp fi tb wd qo lk,RY ar n m A s gn] (.agg #[iV 0,iV 0]) [BU mb rg m D (nr+1),AU rg ar yc rq n m zz yy q mq bt ba cp fi tb wd qo lk,BY ar n m A s gn]:=by
 refine AC func7 ntmps7 fun g w0 R h0=> ?_
 obtain⟨a,d,i,j,p,U,V,E⟩:=BX h0
 have F:sat g _ (Cl mb [iV m,pV rg,.slice a D.length d,.slice i nr j] 70::_):=E
 refine g0<|nP 37 [iV 4,iV 0,iV 0,iV 0,iV 0,sV []] F (fun W _ G=> ?_)
 refine nP 34 [iV 0,iV 0] G (fun X _ H=> ?_)
 have I:=H.b.t8
 refine g0<|AF call17 (Ai mb m rg a D.length d i nr j) I fun _ t=> ?_
 have J:=t.f.f.b.t8
 refine go [rd 3 1 2 0 6 t]<|IM call18 (We mb m rg a D.length d i nr j ar yc rq n zz yy q mq bt ba cp fi tb wd qo lk A s gn om) J fun _ L=>nP 34 [iV 0,iV 0] L (fun Y _ M=> ?_)
 refine sA [iV 0,iV 0] M fun _ N=>g0<|dw (AE [0,1,2,3,4,5] (Tr.an 6 (Tr.an 7 (AE [8,9] (Tr.an 10 Tr.nil))))) N fun _ o=>go [rd 4 4 1 3 1 o,rd 4 5 0 0 2 o]<|nG (fun q_=> .slice (some ⟨q_,0,none⟩) 1 1) 34 [iV 0,iV 0] o (fun O _ u=>⟨kd [rd 0 4 2 3 1 u],?_⟩)
 have y:=u.h.t10
 refine AH ?_
 refine aA 20 2 (Ot 17) (Ot 19) (.agg #[iV 0,iV 0]) i nr j 1 1 (⟨O,0,none⟩) 16 underlying68 y (fl Fo [(0,0)]) rfl (Br y rfl) (Aw Cx _) (nr+1) ?_
 intro k l Z P
 have z:sat g _ (Sl 34 2 k (nr+1) l (fl Fo (p++ [(0,0)]))::_):=sJ P
 obtain⟨aa,ab⟩:=BH z
 refine⟨kd [],DE ?_⟩
 have Q:=z.c.t10
 refine g0<|sG [(3,.slice k (nr+1) l)] [iV m,pV rg,.slice a D.length d,.slice k (nr+1) l] Q fun _ B=>⟨kd [],?_⟩
 have S:=B.f.t10
 refine go [rd 5 0 3 0 2 B]<|sA [iV 0,iV 0] S fun ac C=>g0 ?_
 have T:sat g _ (BU mb rg m D (nr+1)::_):=BC mb rg m D (nr+1) a d k l (p++ [(0,0)]) om om C.b.h.c.t10
 exact AD _ [rd 0 0 0 0 2 C] T.e.e.b.t8.x.c.c.c.t4
theorem S8(m f a i:Nat)(I:Option Addr)(J L:Nat)(M:Option Addr)(N O j k o b:Nat)(p q:Int)(s:Nat)(t u x y z:Int)(A B C D:Nat)(E F:Int)(d:Nat)(G:List AM)(l:Nat)(H:Int)(_:0≤(a:Int)-(f:Int)-1)(_:0≤2*(b:Int)-(d:Int)+3)(_:0≤(b:Int)-(l:Int)-1):HQ 79 [pV m,.agg #[iV 7,iV f,iV 0,iV 0,iV 0,sV []]] [Cl m [iV a,pV i,.slice I J L,.slice M N O] 70,AU i j k o b a p q s t u x y z A B C D,C8 k b a E F d f,Cw j b a G l H d] (.agg #[iV (H1 d),iV 0]) [Cl m [iV a,pV i,.slice I J L,.slice M N O] 70,AU i j k o b a p q s t u x y z A B C D,C8 k b a E F d (f+1),Cw j b a G l H d]:=by
 refine AC func79 ntmps79 fun g w0 R h0=>g0<|nP 37 [iV 7,iV f,iV 0,iV 0,iV 0,sV []] h0 (fun _ _ S=> ?_)
 refine nP 34 [iV 0,iV 0] S (fun _ _ T=> ?_)
 refine g0<|dw (AE [0,1,2,3,4,5] (Tr.an 6 (Tr.fl 7 (Tr.an 8 Tr.nil)))) T fun _ P=> ?_
 have U:=P.e.e.e.t7
 refine go [rd 1 3 2 1 1 P,rd 1 5 1 1 1 P]<|L7 call135 (wB i j k o b a p q s t u x y z A B C D G l H E F d f om om om) U fun _ V=>⟨kd [],?_⟩
 have W:=V.c.t7
 refine g0<|sB [iV (H1 d),iV 0] W fun _ Q=>⟨kd [],?_⟩
 refine g0 ?_
 exact AD _ [rd 0 0 0 0 2 Q] Q.c.c.c.e.t7.f.d.d.d.d.t5
theorem Wg(p b a k:Nat)(s:Option Addr)(u y:Nat)(A:Option Addr)(B C l o D c:Nat)(E F:Int)(G:Nat)(H I J L M:Int)(N O P Q:Nat)(S T:Int)(i:Nat)(U:List AM)(q:Nat)(V:Int)(_:0≤ -(b:Int)+3)(_:0≤(a:Int)-(b:Int)-1)(_:0≤2*(c:Int)-(i:Int)+3)(_:0≤(c:Int)-(q:Int)-1):HQ 18 [pV p,.agg #[iV 7,iV b,iV 0,iV 0,iV 0,sV []]] [Cl p [iV a,pV k,.slice s u y,.slice A B C] 70,AU k l o D c a E F G H I J L M N O P Q,C8 o c a S T i b,Cw l c a U q V i] (.agg #[iV (H1 i),iV 0]) [Cl p [iV a,pV k,.slice s u y,.slice A B C] 70,AU k l o D c a E F G H I J L M N O P Q,C8 o c a S T i (b+1),Cw l c a U q V i]:=by
 refine AC func18 ntmps18 fun g w0 R h0=>g0<|nP 37 [iV 7,iV b,iV 0,iV 0,iV 0,sV []] h0 (fun _ _ ad=> ?_)
 refine nP 34 [iV 0,iV 0] ad (fun _ _ Y=> ?_)
 refine go [rd 1 0 1 0 6 Y]<|AP call34 (iR (b:Int) om om) Y fun _ ae=>g0<|dw (AE [0,1] (Tr.an 2 (AE [3,4,5,6,7,8,9,10,11,12] Tr.nil))) ae fun _ Z=>go [rd 3 1 1 0 1 Z]<|CJ call35 vC Z fun _ X=>⟨kd [],?_⟩
 refine go [rd 3 5 1 1 1 X,rd 3 9 2 0 1 X,.v 3 10 (oF ((b:Int)≥(a:Int)))]<|dw (AE [0,1] (Tr.an 2 (AE [3,4,5,6,7,8,9,10,11,12,13] Tr.nil))) X fun _ aa=>go [rd 4 1 1 0 1 aa]<|CJ call36 vH aa fun _ af=>⟨kd [],?_⟩
 refine g0<|dw (AE [1,2] (Tr.an 0 (Tr.an 3 (AE [4,5,6,7,8] Tr.nil)))) af fun _ ab=>go [rd 6 2 1 0 1 ab]<|cG call37 Aq ab ?_
 rintro v K _ (⟨aj,rfl,rfl⟩) ag
 have W:=B3 ag
 refine⟨kd [rd 0 2 2 0 1 W],?_⟩
 refine AH ?_
 refine AX (d:=43) (.tuple #[.func (Fn.func 79) #[] #[],bT]) kr rfl (BN (t:=106) (z:=Value.nilFunc) (m:=Ot 40) (x:=Ot 42) (kv:=kI) (ve:=vF) kr underlying106 Dc kr 7 kr kr (j:=0) W rfl (.func (Fn.func 79) #[] #[]) 79 (Bz rfl) rfl) ?_
 refine⟨kd [],DE ?_⟩
 have ah:=W.f.f.f.f.t8
 refine go [rd 8 2 2 0 6 W]<|IL call79 (S8 p b a k s u y A B C l o D c E F G H I J L M N O P Q S T i U q V om om om) ah fun _ ai=>sA [iV (H1 i),iV 0] ai.e.t8 fun _ ac=>g0 ?_
 exact AD _ [rd 0 0 0 0 2 ac] ac.d.d.d.d.t8.x.d.d.d.d.t5
theorem jN(mb rg ar yc rq n m:Nat)(zz yy:Int)(q:Nat)(mq bt ba cp fi:Int)(tb wd qo lk:Nat)(D:List Ky)(nr:Nat)(A:List AM)(s:Nat)(gn ec bg:Int)(p j:Nat)(_:0≤ -(nr:Int)+99999)(_:0≤(m:Int)-(j:Int)-1)(_:0≤ -(m:Int)+4)(_:0≤2*(n:Int)-(p:Int)+3)(_:0≤(n:Int)-(s:Int)-1):HQ 7 [pV mb,.agg #[iV 7,iV j,iV 0,iV 0,iV 0,sV []]] [BU mb rg m D nr,AU rg ar yc rq n m zz yy q mq bt ba cp fi tb wd qo lk,C8 yc n m ec bg p j,Cw ar n m A s gn p] (.agg #[iV (H1 p),iV 0]) [BU mb rg m D (nr+1),AU rg ar yc rq n m zz yy q mq bt ba cp fi tb wd qo lk,C8 yc n m ec bg p (j+1),Cw ar n m A s gn p]:=by
 refine AC func7 ntmps7 fun g w0 R h0=> ?_
 obtain⟨a,e,k,l,y,X,Y,H⟩:=BX h0
 have I:sat g _ (Cl mb [iV m,pV rg,.slice a D.length e,.slice k nr l] 70::_):=H
 refine g0<|nP 37 [iV 7,iV j,iV 0,iV 0,iV 0,sV []] I (fun Z _ J=> ?_)
 refine nP 34 [iV 0,iV 0] J (fun aa _ L=> ?_)
 have M:=L.b.t9
 refine g0<|AF call17 (Ai mb m rg a D.length e k nr l) M fun _ z=> ?_
 have N:=z.x.x.x.c.t9
 refine go [rd 3 1 2 0 6 z]<|IL call18 (Wg mb j m rg a D.length e k nr l ar yc rq n zz yy q mq bt ba cp fi tb wd qo lk ec bg p A s gn om om om om) N fun _ O=>nP 34 [iV 0,iV 0] O (fun ab _ P=> ?_)
 refine sA [iV (H1 p),iV 0] P fun _ Q=>g0<|dw (AE [0,1,2,3,4,5] (Tr.an 6 (Tr.an 7 (AE [8,9] (Tr.an 10 Tr.nil))))) Q fun _ u=>go [rd 4 4 1 3 1 u,rd 4 5 0 0 2 u]<|nG (fun q_=> .slice (some ⟨q_,0,none⟩) 1 1) 34 [iV (H1 p),iV 0] u (fun S _ B=>⟨kd [rd 0 4 2 3 1 B],?_⟩)
 have C:=B.i.t11
 refine AH ?_
 refine aA 20 2 (Ot 17) (Ot 19) (.agg #[iV 0,iV 0]) k nr l 1 1 (⟨S,0,none⟩) 16 underlying68 C (fl Fo [((H1 p),0)]) rfl (Br C rfl) (Aw Cx _) (nr+1) ?_
 intro o t ac T
 have E:sat g _ (Sl 34 2 o (nr+1) t (fl Fo (y++ [((H1 p),0)]))::_):=sJ T
 obtain⟨ad,ae⟩:=BH E
 refine⟨kd [],DE ?_⟩
 have U:=E.c.t11
 refine g0<|sG [(3,.slice o (nr+1) t)] [iV m,pV rg,.slice a D.length e,.slice o (nr+1) t] U fun _ F=>⟨kd [],?_⟩
 have V:=F.x.t11
 refine go [rd 5 0 3 0 2 F]<|sA [iV (H1 p),iV 0] V fun af G=>g0 ?_
 have W:sat g _ (BU mb rg m D (nr+1)::_):=BC mb rg m D (nr+1) a e o t (y++ [((H1 p),0)]) om om G.b.i.c.t11
 exact AD _ [rd 0 0 0 0 2 G] W.f.f.f.c.t9.h.d.d.d.d.t5
theorem Qt(t c a k:Nat)(L:Option Addr)(M N:Nat)(O:Option Addr)(P Q l m o b:Nat)(u x:Int)(i:Nat)(y z A B C:Int)(D E F G:Nat)(p H:Int)(e j:Nat)(I:List AM)(q:Nat)(s J:Int)(S:RZ b a e j)(_:0≤(c:Int)-1)(_:0≤ -(c:Int)+10000)(_:0≤(b:Int)-(q:Int)-1)(_:0≤p)(_:0≤ -p+1000000)(_:0≤(a:Int)-1)(_:0≤(i:Int)-1)(_:0≤s-1):HQ 85 [pV t,.agg #[iV 13,iV 0,iV c,iV 0,iV 0,sV []]] [Cl t [iV a,pV k,.slice L M N,.slice O P Q] 70,AU k l m o b a u x i y z A B C D E F G,C8 m b a p H e j,Cw l b a I q s e,Bl o i J] (.agg #[iV 0,iV 0]) [Cl t [iV a,pV k,.slice L M N,.slice O P Q] 70,AU k l m o b a u x i y z A B C D E F G,C8 m b a p H ((mv b a c (e,j)).1) ((mv b a c (e,j)).2),Cw l b a I q s ((mv b a c (e,j)).1),Bl o i J]:=by
 refine AC func85 ntmps85 fun g w0 R h0=>g0<|nP 37 [iV 13,iV 0,iV c,iV 0,iV 0,sV []] h0 (fun _ _ V=> ?_)
 refine nP 34 [iV 0,iV 0] V (fun _ _ W=> ?_)
 refine g0<|dw (AE [0,1,2,3,4,5] (Tr.an 6 (Tr.fl 7 (Tr.an 8 Tr.nil)))) W fun _ T=> ?_
 have X:=T.f.f.f.f.t8
 refine go [rd 1 3 2 1 1 T,rd 1 5 1 2 1 T]<|Rb call142 (qS k l m o b a u x i y z A B C D E F G I q s p H e j J c S om om om om om om om om) X fun _ Y=>⟨kd [],?_⟩
 have Z:=Y.d.t8
 refine g0<|sB [iV 0,iV 0] Z fun _ U=>⟨kd [],?_⟩
 refine g0 ?_
 exact AD _ [rd 0 0 0 0 2 U] U.d.d.d.d.f.t8.x.e.e.e.e.e.t6
theorem Wh(y c a o:Nat)(C:Option Addr)(D E:Nat)(F:Option Addr)(G H p q s b:Nat)(I J:Int)(k:Nat)(L M N O P:Int)(Q S T U:Nat)(u V:Int)(i l:Nat)(W:List AM)(A:Nat)(B X:Int)(Y:RZ b a i l)(_:0≤(c:Int)-1)(_:0≤ -(c:Int)+10000)(_:0≤(b:Int)-(A:Int)-1)(_:0≤u)(_:0≤ -u+1000000)(_:0≤(a:Int)-1)(_:0≤(k:Int)-1)(_:0≤B-1):HQ 18 [pV y,.agg #[iV 13,iV 0,iV c,iV 0,iV 0,sV []]] [Cl y [iV a,pV o,.slice C D E,.slice F G H] 70,AU o p q s b a I J k L M N O P Q S T U,C8 q b a u V i l,Cw p b a W A B i,Bl s k X] (.agg #[iV 0,iV 0]) [Cl y [iV a,pV o,.slice C D E,.slice F G H] 70,AU o p q s b a I J k L M N O P Q S T U,C8 q b a u V ((mv b a c (i,l)).1) ((mv b a c (i,l)).2),Cw p b a W A B ((mv b a c (i,l)).1),Bl s k X]:=by
 refine AC func18 ntmps18 fun g w0 R h0=>g0<|nP 37 [iV 13,iV 0,iV c,iV 0,iV 0,sV []] h0 (fun _ _ af=> ?_)
 refine nP 34 [iV 0,iV 0] af (fun _ _ aa=> ?_)
 refine go [rd 1 0 1 0 6 aa]<|AP call34 (H4 c om om) aa fun _ ag=>g0<|dw (AE [0,1] (Tr.an 2 (AE [3,4,5,6,7,8,9,10,11,12] Tr.nil))) ag fun _ ab=>go [rd 3 1 1 0 1 ab]<|CJ call35 OM ab fun _ ah=>⟨kd [],?_⟩
 refine g0<|dw (AE [0,1] (Tr.an 2 (AE [3,4,5,6,7,8,9,10,11,12,13] Tr.nil))) ah fun _ ac=>go [rd 4 1 1 0 1 ac]<|CJ call36 OO ac fun _ ai=>⟨kd [],?_⟩
 refine g0<|dw (AE [1,2] (Tr.an 0 (Tr.an 3 (AE [4,5,6,7,8] Tr.nil)))) ai fun _ ad=>go [rd 6 2 1 0 1 ad]<|cG call37 Aq ad ?_
 rintro v K _ (⟨am,rfl,rfl⟩) aj
 have Z:=B3 aj
 refine⟨kd [rd 0 2 2 0 1 Z],?_⟩
 refine AH ?_
 refine AX (d:=43) (.tuple #[.func (Fn.func 85) #[] #[],bT]) kr rfl (BN (t:=106) (z:=Value.nilFunc) (m:=Ot 40) (x:=Ot 42) (kv:=kI) (ve:=vF) kr underlying106 Dc kr 13 kr kr (j:=0) Z rfl (.func (Fn.func 85) #[] #[]) 85 (AG om (AG om (AG om (AG om (AG om (AG om (Bz rfl))))))) rfl) ?_
 refine⟨kd [],DE ?_⟩
 have ak:=Z.x.x.x.x.x.t9
 refine go [rd 8 2 2 0 6 Z]<|LK call85 (Qt y c a o C D E F G H p q s b I J k L M N O P Q S T U u V i l W A B X Y om om om om om om om om) ak fun _ al=>sA [iV 0,iV 0] al.f.t9 fun _ ae=>g0 ?_
 exact AD _ [rd 0 0 0 0 2 ae] ae.e.e.e.e.e.t9.h.e.e.e.e.e.t6
theorem Qu(mb rg ar yc rq n m:Nat)(zz yy:Int)(q:Nat)(mq bt ba cp fi:Int)(tb wd qo lk:Nat)(D:List Ky)(nr:Nat)(A:List AM)(s:Nat)(gn ec bg:Int)(p j:Nat)(f:Int)(k:Nat)(hG:RZ n m p j)(_:0≤ -(nr:Int)+99999)(_:0≤(k:Int)-1)(_:0≤ -(k:Int)+10000)(_:0≤(n:Int)-(s:Int)-1)(_:0≤ec)(_:0≤ -ec+1000000)(_:0≤(m:Int)-1)(_:0≤(q:Int)-1)(_:0≤gn-1):HQ 7 [pV mb,.agg #[iV 13,iV 0,iV k,iV 0,iV 0,sV []]] [BU mb rg m D nr,AU rg ar yc rq n m zz yy q mq bt ba cp fi tb wd qo lk,C8 yc n m ec bg p j,Cw ar n m A s gn p,Bl rq q f] (.agg #[iV 0,iV 0]) [BU mb rg m D (nr+1),AU rg ar yc rq n m zz yy q mq bt ba cp fi tb wd qo lk,C8 yc n m ec bg ((mv n m k (p,j)).1) ((mv n m k (p,j)).2),Cw ar n m A s gn ((mv n m k (p,j)).1),Bl rq q f]:=by
 refine AC func7 ntmps7 fun g w0 R h0=> ?_
 obtain⟨a,l,o,t,B,Z,aa,J⟩:=BX h0
 have L:sat g _ (Cl mb [iV m,pV rg,.slice a D.length l,.slice o nr t] 70::_):=J
 refine g0<|nP 37 [iV 13,iV 0,iV k,iV 0,iV 0,sV []] L (fun ab _ M=> ?_)
 refine nP 34 [iV 0,iV 0] M (fun ac _ N=> ?_)
 have O:=N.b.t10
 refine g0<|AF call17 (Ai mb m rg a D.length l o nr t) O fun _ C=> ?_
 have P:=C.h.h.h.h.d.t10
 refine go [rd 3 1 2 0 6 C]<|LK call18 (Wh mb k m rg a D.length l o nr t ar yc rq n zz yy q mq bt ba cp fi tb wd qo lk ec bg p j A s gn f hG om om om om om om om om) P fun _ Q=>nP 34 [iV 0,iV 0] Q (fun ad _ S=> ?_)
 refine sA [iV 0,iV 0] S fun _ T=>g0<|dw (AE [0,1,2,3,4,5] (Tr.an 6 (Tr.an 7 (AE [8,9] (Tr.an 10 Tr.nil))))) T fun _ z=>go [rd 4 4 1 3 1 z,rd 4 5 0 0 2 z]<|nG (fun q_=> .slice (some ⟨q_,0,none⟩) 1 1) 34 [iV 0,iV 0] z (fun U _ E=>⟨kd [rd 0 4 2 3 1 E],?_⟩)
 have F:=E.j.t12
 refine AH ?_
 refine aA 20 2 (Ot 17) (Ot 19) (.agg #[iV 0,iV 0]) o nr t 1 1 (⟨U,0,none⟩) 16 underlying68 F (fl Fo [(0,0)]) rfl (Br F rfl) (Aw Cx _) (nr+1) ?_
 intro u y ae V
 have G:sat g _ (Sl 34 2 u (nr+1) y (fl Fo (B++ [(0,0)]))::_):=sJ V
 obtain⟨af,ag⟩:=BH G
 refine⟨kd [],DE ?_⟩
 have W:=G.c.t12
 refine g0<|sG [(3,.slice u (nr+1) y)] [iV m,pV rg,.slice a D.length l,.slice u (nr+1) y] W fun _ H=>⟨kd [],?_⟩
 have X:=H.h.t12
 refine go [rd 5 0 3 0 2 H]<|sA [iV 0,iV 0] X fun ah I=>g0 ?_
 have Y:sat g _ (BU mb rg m D (nr+1)::_):=BC mb rg m D (nr+1) a l u y (B++ [(0,0)]) om om I.b.j.c.t12
 exact AD _ [rd 0 0 0 0 2 I] Y.x.x.x.x.d.t10.i.e.e.e.e.e.t6
theorem Lv(u d e:Nat)(H:Option Addr)(I J:Nat)(L:Option Addr)(M N y z j A:Nat)(B C:Int)(k:Nat)(a b l m D:Int)(o p q s:Nat)(E:Int)(c:Ts)(t:Wst)(F:Int)(G:E3)(O:Bo c t.now b= [])(_:0≤b-1)(_:0≤ -b+64)(_:0≤l-1)(_:0≤m-l)(_:0≤ -m+1048576)(_:0≤a-1)(_:0≤(c.R.length:Int)-(((AT c.R 3).length:Nat):Int)):HQ 86 [pV u,.agg #[iV 14,iV 0,iV 0,iV 0,iV 0,sV []]] [Cl u [iV d,pV e,.slice H I J,.slice L M N] 70,AU e y z j A d B C k a b l m D o p q s,Bl j k E,TW o 256 c,Wd p t,Cl q [iV a,pO] 191,Bj s F G] (.agg #[iV 0,iV 0]) [Cl u [iV d,pV e,.slice H I J,.slice L M N] 70,AU e y z j A d B C k a b l m D o p q s,Bl j k E,TW o 256 c,Wd p t,Cl q [iV a,pO] 191,Bj s F G]:=by
 refine AC func86 ntmps86 fun g w0 R h0=>g0<|nP 37 [iV 14,iV 0,iV 0,iV 0,iV 0,sV []] h0 (fun _ _ S=> ?_)
 refine nP 34 [iV 0,iV 0] S (fun _ _ P=> ?_)
 have T:=P.h.h.h.h.h.h.t10
 refine go [rd 1 3 2 1 1 P]<|cP call143 (jJ e y z j A d B C k a b l m D o p q s E c t F G O om om om om om om om) T ?_
 rintro v K _ (⟨W,X,rfl,rfl⟩) U
 have V:=(IW U).x.t11
 refine g0<|sA [iV 0,iV 0] V fun _ Q=>g0 ?_
 exact AD _ [rd 0 0 0 0 2 Q] Q.f.f.f.f.f.f.i.t11.j.x.x.x.x.x.x.x.t8
theorem S9(A e f:Nat)(C:Option Addr)(D E:Nat)(F:Option Addr)(G H I J k L:Nat)(M N:Int)(l:Nat)(a b o p O:Int)(q s u y:Nat)(P:Int)(c:Ts)(B:Wst)(Q:Int)(S:E3)(T:Bo c B.now b= [])(_:0≤b-1)(_:0≤ -b+64)(_:0≤o-1)(_:0≤p-o)(_:0≤ -p+1048576)(_:0≤a-1)(_:0≤(c.R.length:Int)-(((AT c.R 3).length:Nat):Int)):HQ 18 [pV A,.agg #[iV 14,iV 0,iV 0,iV 0,iV 0,sV []]] [Cl A [iV e,pV f,.slice C D E,.slice F G H] 70,AU f I J k L e M N l a b o p O q s u y,Bl k l P,TW q 256 c,Wd s B,Cl u [iV a,pO] 191,Bj y Q S] (.agg #[iV 0,iV 0]) [Cl A [iV e,pV f,.slice C D E,.slice F G H] 70,AU f I J k L e M N l a b o p O q s u y,Bl k l P,TW q 256 c,Wd s B,Cl u [iV a,pO] 191,Bj y Q S]:=by
 refine AC func18 ntmps18 fun g w0 R h0=>g0<|nP 37 [iV 14,iV 0,iV 0,iV 0,iV 0,sV []] h0 (fun _ _ aa=> ?_)
 refine nP 34 [iV 0,iV 0] aa (fun _ _ V=> ?_)
 refine go [rd 1 0 1 0 6 V]<|AP call34 Jp V fun _ ab=>g0<|dw (AE [0,1] (Tr.an 2 (AE [3,4,5,6,7,8,9,10,11,12] Tr.nil))) ab fun _ W=>go [rd 3 1 1 0 1 W]<|CJ call35 ON W fun _ ac=>⟨kd [],?_⟩
 refine g0<|dw (AE [0,1] (Tr.an 2 (AE [3,4,5,6,7,8,9,10,11,12,13] Tr.nil))) ac fun _ X=>go [rd 4 1 1 0 1 X]<|CJ call36 OQ X fun _ ad=>⟨kd [],?_⟩
 refine g0<|dw (AE [1,2] (Tr.an 0 (Tr.an 3 (AE [4,5,6,7,8] Tr.nil)))) ad fun _ Y=>go [rd 6 2 1 0 1 Y]<|cG call37 Aq Y ?_
 rintro v K _ (⟨ah,rfl,rfl⟩) ae
 have U:=B3 ae
 refine⟨kd [rd 0 2 2 0 1 U],?_⟩
 refine AH ?_
 refine AX (d:=43) (.tuple #[.func (Fn.func 86) #[] #[],bT]) kr rfl (BN (t:=106) (z:=Value.nilFunc) (m:=Ot 40) (x:=Ot 42) (kv:=kI) (ve:=vF) kr underlying106 Dc kr 14 kr kr (j:=0) U rfl (.func (Fn.func 86) #[] #[]) 86 (AG om (AG om (AG om (AG om (AG om (AG om (AG om (Bz rfl)))))))) rfl) ?_
 refine⟨kd [],DE ?_⟩
 have af:=U.i.i.i.i.i.i.i.t11
 refine go [rd 8 2 2 0 6 U]<|cP call86 (Lv A e f C D E F G H I J k L M N l a b o p O q s u y P c B Q S T om om om om om om om) af ?_
 rintro v K _ (⟨rfl,rfl⟩) ag
 refine sA [iV 0,iV 0] ((IW ag).h.t11) fun _ Z=>g0 ?_
 exact AD _ [rd 0 0 0 0 2 Z] Z.x.x.x.x.x.x.x.t11.j.x.x.x.x.x.x.x.t8
theorem M1(mb rg ar yc rq n m:Nat)(zz yy:Int)(q:Nat)(mq bt ba cp fi:Int)(tb wd qo lk:Nat)(D:List Ky)(nr:Nat)(f:Int)(S:Ts)(W:Wst)(tz:Int)(E:E3)(hd:Bo S W.now bt= [])(_:0≤ -(nr:Int)+99999)(_:0≤bt-1)(_:0≤ -bt+64)(_:0≤ba-1)(_:0≤cp-ba)(_:0≤ -cp+1048576)(_:0≤mq-1)(_:0≤(S.R.length:Int)-(((AT S.R 3).length:Nat):Int)):HQ 7 [pV mb,.agg #[iV 14,iV 0,iV 0,iV 0,iV 0,sV []]] [BU mb rg m D nr,AU rg ar yc rq n m zz yy q mq bt ba cp fi tb wd qo lk,Bl rq q f,TW tb 256 S,Wd wd W,Cl qo [iV mq,pO] 191,Bj lk tz E] (.agg #[iV 0,iV 0]) [BU mb rg m D (nr+1),AU rg ar yc rq n m zz yy q mq bt ba cp fi tb wd qo lk,Bl rq q f,TW tb 256 S,Wd wd W,Cl qo [iV mq,pO] 191,Bj lk tz E]:=by
 refine AC func7 ntmps7 fun g w0 R h0=> ?_
 obtain⟨a,d,e,o,u,Y,Z,G⟩:=BX h0
 have H:sat g _ (Cl mb [iV m,pV rg,.slice a D.length d,.slice e nr o] 70::_):=G
 refine g0<|nP 37 [iV 14,iV 0,iV 0,iV 0,iV 0,sV []] H (fun aa _ I=> ?_)
 refine nP 34 [iV 0,iV 0] I (fun ab _ J=> ?_)
 have L:=J.b.t12
 refine g0<|AF call17 (Ai mb m rg a D.length d e nr o) L fun _ y=> ?_
 have M:=y.j.j.j.j.j.j.f.t12
 refine go [rd 3 1 2 0 6 y]<|cP call18 (S9 mb m rg a D.length d e nr o ar yc rq n zz yy q mq bt ba cp fi tb wd qo lk f S W tz E hd om om om om om om om) M ?_
 rintro v K _ (⟨rfl,rfl⟩) N
 refine nP 34 [iV 0,iV 0] (IW N) (fun ac _ O=> ?_)
 refine sA [iV 0,iV 0] O fun _ P=>g0<|dw (AE [0,1,2,3,4,5] (Tr.an 6 (Tr.an 7 (AE [8,9] (Tr.an 10 Tr.nil))))) P fun _ t=>go [rd 4 4 1 3 1 t,rd 4 5 0 0 2 t]<|nG (fun q_=> .slice (some ⟨q_,0,none⟩) 1 1) 34 [iV 0,iV 0] t (fun Q _ z=>⟨kd [rd 0 4 2 3 1 z],?_⟩)
 have A:=z.l.t14
 refine AH ?_
 refine aA 20 2 (Ot 17) (Ot 19) (.agg #[iV 0,iV 0]) e nr o 1 1 (⟨Q,0,none⟩) 16 underlying68 A (fl Fo [(0,0)]) rfl (Br A rfl) (Aw Cx _) (nr+1) ?_
 intro p s ad T
 have B:sat g _ (Sl 34 2 p (nr+1) s (fl Fo (u++ [(0,0)]))::_):=sJ T
 obtain⟨ae,af⟩:=BH B
 refine⟨kd [],DE ?_⟩
 have U:=B.c.t14
 refine g0<|sG [(3,.slice p (nr+1) s)] [iV m,pV rg,.slice a D.length d,.slice p (nr+1) s] U fun _ C=>⟨kd [],?_⟩
 have V:=C.j.t14
 refine go [rd 5 0 3 0 2 C]<|sA [iV 0,iV 0] V fun ag F=>g0 ?_
 have X:sat g _ (BU mb rg m D (nr+1)::_):=BC mb rg m D (nr+1) a d p s (u++ [(0,0)]) om om F.b.l.c.t14
 exact AD _ [rd 0 0 0 0 2 F] X.i.i.i.i.i.i.f.t12.k.x.x.x.x.x.x.x.t8
theorem Lw(u d e:Nat)(J:Option Addr)(L M:Nat)(N:Option Addr)(O P y z j A:Nat)(B C:Int)(k:Nat)(a b l m D:Int)(o p q s E F:Nat)(G:Int)(c:Ts)(t:Wst)(H:Int)(I:E3)(Q:Bo c t.now b= [])(_:0≤b-1)(_:0≤ -b+64)(_:0≤l-1)(_:0≤m-l)(_:0≤ -m+1048576)(_:0≤a-1)(_:0≤(c.R.length:Int)-(((AT c.R 3).length:Nat):Int)):HQ 86 [pV u,.agg #[iV 14,iV 0,iV 0,iV 0,iV 0,sV []]] [Cl u [iV d,pV e,.slice J L M,.slice N O P] 70,AU e y z j A d B C k a b l m D o p q s,D2 j k E F G,TW o 256 c,Wd p t,Cl q [iV a,pO] 191,Bj s H I] (.agg #[iV 0,iV 0]) [Cl u [iV d,pV e,.slice J L M,.slice N O P] 70,AU e y z j A d B C k a b l m D o p q s,D2 j k E F G,TW o 256 c,Wd p t,Cl q [iV a,pO] 191,Bj s H I]:=by
 refine AC func86 ntmps86 fun g w0 R h0=>g0<|nP 37 [iV 14,iV 0,iV 0,iV 0,iV 0,sV []] h0 (fun _ _ U=> ?_)
 refine nP 34 [iV 0,iV 0] U (fun _ _ S=> ?_)
 have V:=S.h.h.h.h.h.h.t10
 refine go [rd 1 3 2 1 1 S]<|cP call143 (jK e y z j A d B C k a b l m D o p q s E F G c t H I Q om om om om om om om) V ?_
 rintro v K _ (⟨Y,Z,rfl,rfl⟩) W
 have X:=(IW W).x.t11
 refine g0<|sA [iV 0,iV 0] X fun _ T=>g0 ?_
 exact AD _ [rd 0 0 0 0 2 T] T.f.f.f.f.f.f.i.t11.j.x.x.x.x.x.x.x.t8
theorem TA(A e f:Nat)(C:Option Addr)(D E:Nat)(F:Option Addr)(G H I J k L:Nat)(M N:Int)(l:Nat)(a b o p O:Int)(q s u y P Q:Nat)(S:Int)(c:Ts)(B:Wst)(T:Int)(U:E3)(V:Bo c B.now b= [])(_:0≤b-1)(_:0≤ -b+64)(_:0≤o-1)(_:0≤p-o)(_:0≤ -p+1048576)(_:0≤a-1)(_:0≤(c.R.length:Int)-(((AT c.R 3).length:Nat):Int)):HQ 18 [pV A,.agg #[iV 14,iV 0,iV 0,iV 0,iV 0,sV []]] [Cl A [iV e,pV f,.slice C D E,.slice F G H] 70,AU f I J k L e M N l a b o p O q s u y,D2 k l P Q S,TW q 256 c,Wd s B,Cl u [iV a,pO] 191,Bj y T U] (.agg #[iV 0,iV 0]) [Cl A [iV e,pV f,.slice C D E,.slice F G H] 70,AU f I J k L e M N l a b o p O q s u y,D2 k l P Q S,TW q 256 c,Wd s B,Cl u [iV a,pO] 191,Bj y T U]:=by
 refine AC func18 ntmps18 fun g w0 R h0=>g0<|nP 37 [iV 14,iV 0,iV 0,iV 0,iV 0,sV []] h0 (fun _ _ ac=> ?_)
 refine nP 34 [iV 0,iV 0] ac (fun _ _ X=> ?_)
 refine go [rd 1 0 1 0 6 X]<|AP call34 Jp X fun _ ad=>g0<|dw (AE [0,1] (Tr.an 2 (AE [3,4,5,6,7,8,9,10,11,12] Tr.nil))) ad fun _ Y=>go [rd 3 1 1 0 1 Y]<|CJ call35 ON Y fun _ ae=>⟨kd [],?_⟩
 refine g0<|dw (AE [0,1] (Tr.an 2 (AE [3,4,5,6,7,8,9,10,11,12,13] Tr.nil))) ae fun _ Z=>go [rd 4 1 1 0 1 Z]<|CJ call36 OQ Z fun _ af=>⟨kd [],?_⟩
 refine g0<|dw (AE [1,2] (Tr.an 0 (Tr.an 3 (AE [4,5,6,7,8] Tr.nil)))) af fun _ aa=>go [rd 6 2 1 0 1 aa]<|cG call37 Aq aa ?_
 rintro v K _ (⟨aj,rfl,rfl⟩) ag
 have W:=B3 ag
 refine⟨kd [rd 0 2 2 0 1 W],?_⟩
 refine AH ?_
 refine AX (d:=43) (.tuple #[.func (Fn.func 86) #[] #[],bT]) kr rfl (BN (t:=106) (z:=Value.nilFunc) (m:=Ot 40) (x:=Ot 42) (kv:=kI) (ve:=vF) kr underlying106 Dc kr 14 kr kr (j:=0) W rfl (.func (Fn.func 86) #[] #[]) 86 (AG om (AG om (AG om (AG om (AG om (AG om (AG om (Bz rfl)))))))) rfl) ?_
 refine⟨kd [],DE ?_⟩
 have ah:=W.i.i.i.i.i.i.i.t11
 refine go [rd 8 2 2 0 6 W]<|cP call86 (Lw A e f C D E F G H I J k L M N l a b o p O q s u y P Q S c B T U V om om om om om om om) ah ?_
 rintro v K _ (⟨rfl,rfl⟩) ai
 refine sA [iV 0,iV 0] ((IW ai).h.t11) fun _ ab=>g0 ?_
 exact AD _ [rd 0 0 0 0 2 ab] ab.x.x.x.x.x.x.x.t11.j.x.x.x.x.x.x.x.t8
theorem Wj(mb rg ar yc rq n m:Nat)(zz yy:Int)(q:Nat)(mq bt ba cp fi:Int)(tb wd qo lk:Nat)(D:List Ky)(nr dk s:Nat)(gn:Int)(S:Ts)(W:Wst)(tz:Int)(E:E3)(hd:Bo S W.now bt= [])(_:0≤ -(nr:Int)+99999)(_:0≤bt-1)(_:0≤ -bt+64)(_:0≤ba-1)(_:0≤cp-ba)(_:0≤ -cp+1048576)(_:0≤mq-1)(_:0≤(S.R.length:Int)-(((AT S.R 3).length:Nat):Int)):HQ 7 [pV mb,.agg #[iV 14,iV 0,iV 0,iV 0,iV 0,sV []]] [BU mb rg m D nr,AU rg ar yc rq n m zz yy q mq bt ba cp fi tb wd qo lk,D2 rq q dk s gn,TW tb 256 S,Wd wd W,Cl qo [iV mq,pO] 191,Bj lk tz E] (.agg #[iV 0,iV 0]) [BU mb rg m D (nr+1),AU rg ar yc rq n m zz yy q mq bt ba cp fi tb wd qo lk,D2 rq q dk s gn,TW tb 256 S,Wd wd W,Cl qo [iV mq,pO] 191,Bj lk tz E]:=by
 refine AC func7 ntmps7 fun g w0 R h0=> ?_
 obtain⟨a,d,e,o,y,Z,aa,H⟩:=BX h0
 have I:sat g _ (Cl mb [iV m,pV rg,.slice a D.length d,.slice e nr o] 70::_):=H
 refine g0<|nP 37 [iV 14,iV 0,iV 0,iV 0,iV 0,sV []] I (fun ab _ J=> ?_)
 refine nP 34 [iV 0,iV 0] J (fun ac _ L=> ?_)
 have M:=L.b.t12
 refine g0<|AF call17 (Ai mb m rg a D.length d e nr o) M fun _ z=> ?_
 have N:=z.j.j.j.j.j.j.f.t12
 refine go [rd 3 1 2 0 6 z]<|cP call18 (TA mb m rg a D.length d e nr o ar yc rq n zz yy q mq bt ba cp fi tb wd qo lk dk s gn S W tz E hd om om om om om om om) N ?_
 rintro v K _ (⟨rfl,rfl⟩) O
 refine nP 34 [iV 0,iV 0] (IW O) (fun ad _ P=> ?_)
 refine sA [iV 0,iV 0] P fun _ Q=>g0<|dw (AE [0,1,2,3,4,5] (Tr.an 6 (Tr.an 7 (AE [8,9] (Tr.an 10 Tr.nil))))) Q fun _ u=>go [rd 4 4 1 3 1 u,rd 4 5 0 0 2 u]<|nG (fun q_=> .slice (some ⟨q_,0,none⟩) 1 1) 34 [iV 0,iV 0] u (fun T _ A=>⟨kd [rd 0 4 2 3 1 A],?_⟩)
 have B:=A.l.t14
 refine AH ?_
 refine aA 20 2 (Ot 17) (Ot 19) (.agg #[iV 0,iV 0]) e nr o 1 1 (⟨T,0,none⟩) 16 underlying68 B (fl Fo [(0,0)]) rfl (Br B rfl) (Aw Cx _) (nr+1) ?_
 intro p t ae U
 have C:sat g _ (Sl 34 2 p (nr+1) t (fl Fo (y++ [(0,0)]))::_):=sJ U
 obtain⟨af,ag⟩:=BH C
 refine⟨kd [],DE ?_⟩
 have V:=C.c.t14
 refine g0<|sG [(3,.slice p (nr+1) t)] [iV m,pV rg,.slice a D.length d,.slice p (nr+1) t] V fun _ F=>⟨kd [],?_⟩
 have X:=F.j.t14
 refine go [rd 5 0 3 0 2 F]<|sA [iV 0,iV 0] X fun ah G=>g0 ?_
 have Y:sat g _ (BU mb rg m D (nr+1)::_):=BC mb rg m D (nr+1) a d p t (y++ [(0,0)]) om om G.b.l.c.t14
 exact AD _ [rd 0 0 0 0 2 G] Y.i.i.i.i.i.i.f.t12.k.x.x.x.x.x.x.x.t8
theorem Lx(E o p:Nat)(Q:Option Addr)(S T:Nat)(U:Option Addr)(V W F G q H:Nat)(I J:Int)(s:Nat)(e a c d L:Int)(t u y z:Nat)(M:Int)(j:Ts)(b:Wst)(k:Int)(D:E3)(A:Int)(B:Ts)(N:Wst)(l m C:Int)(O:List UInt8)(P:E3)(X:Bo j b.now a= [A])(Y:FK (⟨a,c,d⟩:Cf) b.now (j,b) [A])(Z:EX (⟨a,c,d⟩:Cf) b.now (j,b) [A]=(B,N))(aa:D4 (⟨a,c,d⟩:Cf) b.now (j,b) [A]= [(⟨0,(1,l,m),C,1⟩:At)])(ab:Aa D (1,l,m)=some (O, -1,0,0,2))(ac:Au D (1,l,m) (O,k,0,C,3)=P)(_:0≤a-1)(_:0≤ -a+64)(_:0≤c-1)(_:0≤d-c)(_:0≤ -d+1048576)(_:0≤e-1)(_:0≤l)(_:0≤ -l+63)(_:0≤m-1)(_:0≤ -m+4294967295)(_:0≤C-1)(_:0≤ -C+3)(_:0≤k)(_:0≤ -k+9999)(_:0≤(B.R.length:Int)-(((AT B.R 3).length:Nat):Int)):HQ 86 [pV E,.agg #[iV 14,iV 0,iV 0,iV 0,iV 0,sV []]] [Cl E [iV o,pV p,.slice Q S T,.slice U V W] 70,AU p F G q H o I J s e a c d L t u y z,Bl q s M,TW t 256 j,Wd u b,Cl y [iV e,pO] 191,Bj z k D] (.agg #[iV 0,iV 0]) [Cl E [iV o,pV p,.slice Q S T,.slice U V W] 70,AU p F G q H o I J s e a c d L t u y z,Bl q s M,TW t 256 B,Wd u N,Cl y [iV e,pO] 191,Bj z (k+1) P]:=by
 refine AC func86 ntmps86 fun g w0 R h0=>g0<|nP 37 [iV 14,iV 0,iV 0,iV 0,iV 0,sV []] h0 (fun _ _ af=> ?_)
 refine nP 34 [iV 0,iV 0] af (fun _ _ ad=> ?_)
 have ag:=ad.h.h.h.h.h.h.t10
 refine go [rd 1 3 2 1 1 ad]<|cP call143 (jL p F G q H o I J s e a c d L t u y z M j b k D B N P A l m C O X Y Z aa ab ac om om om om om om om om om om om om om om om) ag ?_
 rintro v K _ (⟨aj,ak,rfl,rfl⟩) ah
 have ai:=(IW ah).x.t11
 refine g0<|sA [iV 0,iV 0] ai fun _ ae=>g0 ?_
 exact AD _ [rd 0 0 0 0 2 ae] ae.f.f.f.f.f.f.i.t11.j.x.x.x.x.x.x.x.t8
theorem TB(H q s:Nat)(J:Option Addr)(L M:Nat)(N:Option Addr)(O P Q S u T:Nat)(U V:Int)(y:Nat)(f a c e W:Int)(A B C D:Nat)(X:Int)(k:Ts)(b:Wst)(l:Int)(I:E3)(E:Int)(F:Ts)(Y:Wst)(o p G:Int)(Z:List UInt8)(aa:E3)(ab:Bo k b.now a= [E])(ac:FK (⟨a,c,e⟩:Cf) b.now (k,b) [E])(ad:EX (⟨a,c,e⟩:Cf) b.now (k,b) [E]=(F,Y))(ae:D4 (⟨a,c,e⟩:Cf) b.now (k,b) [E]= [(⟨0,(1,o,p),G,1⟩:At)])(af:Aa I (1,o,p)=some (Z, -1,0,0,2))(ag:Au I (1,o,p) (Z,l,0,G,3)=aa)(_:0≤a-1)(_:0≤ -a+64)(_:0≤c-1)(_:0≤e-c)(_:0≤ -e+1048576)(_:0≤f-1)(_:0≤o)(_:0≤ -o+63)(_:0≤p-1)(_:0≤ -p+4294967295)(_:0≤G-1)(_:0≤ -G+3)(_:0≤l)(_:0≤ -l+9999)(_:0≤(F.R.length:Int)-(((AT F.R 3).length:Nat):Int)):HQ 18 [pV H,.agg #[iV 14,iV 0,iV 0,iV 0,iV 0,sV []]] [Cl H [iV q,pV s,.slice J L M,.slice N O P] 70,AU s Q S u T q U V y f a c e W A B C D,Bl u y X,TW A 256 k,Wd B b,Cl C [iV f,pO] 191,Bj D l I] (.agg #[iV 0,iV 0]) [Cl H [iV q,pV s,.slice J L M,.slice N O P] 70,AU s Q S u T q U V y f a c e W A B C D,Bl u y X,TW A 256 F,Wd B Y,Cl C [iV f,pO] 191,Bj D (l+1) aa]:=by
 refine AC func18 ntmps18 fun g w0 R h0=>g0<|nP 37 [iV 14,iV 0,iV 0,iV 0,iV 0,sV []] h0 (fun _ _ ao=> ?_)
 refine nP 34 [iV 0,iV 0] ao (fun _ _ ai=> ?_)
 refine go [rd 1 0 1 0 6 ai]<|AP call34 Jp ai fun _ ap=>g0<|dw (AE [0,1] (Tr.an 2 (AE [3,4,5,6,7,8,9,10,11,12] Tr.nil))) ap fun _ aj=>go [rd 3 1 1 0 1 aj]<|CJ call35 ON aj fun _ aq=>⟨kd [],?_⟩
 refine g0<|dw (AE [0,1] (Tr.an 2 (AE [3,4,5,6,7,8,9,10,11,12,13] Tr.nil))) aq fun _ ak=>go [rd 4 1 1 0 1 ak]<|CJ call36 OQ ak fun _ ar=>⟨kd [],?_⟩
 refine g0<|dw (AE [1,2] (Tr.an 0 (Tr.an 3 (AE [4,5,6,7,8] Tr.nil)))) ar fun _ al=>go [rd 6 2 1 0 1 al]<|cG call37 Aq al ?_
 rintro v K _ (⟨ax,rfl,rfl⟩) au
 have ah:=B3 au
 refine⟨kd [rd 0 2 2 0 1 ah],?_⟩
 refine AH ?_
 refine AX (d:=43) (.tuple #[.func (Fn.func 86) #[] #[],bT]) kr rfl (BN (t:=106) (z:=Value.nilFunc) (m:=Ot 40) (x:=Ot 42) (kv:=kI) (ve:=vF) kr underlying106 Dc kr 14 kr kr (j:=0) ah rfl (.func (Fn.func 86) #[] #[]) 86 (AG om (AG om (AG om (AG om (AG om (AG om (AG om (Bz rfl)))))))) rfl) ?_
 refine⟨kd [],DE ?_⟩
 have av:=ah.i.i.i.i.i.i.i.t11
 refine go [rd 8 2 2 0 6 ah]<|cP call86 (Lx H q s J L M N O P Q S u T U V y f a c e W A B C D X k b l I E F Y o p G Z aa ab ac ad ae af ag om om om om om om om om om om om om om om om) av ?_
 rintro v K _ (⟨rfl,rfl⟩) aw
 refine sA [iV 0,iV 0] ((IW aw).h.t11) fun _ am=>g0 ?_
 exact AD _ [rd 0 0 0 0 2 am] am.x.x.x.x.x.x.x.t11.j.x.x.x.x.x.x.x.t8
theorem Wk(mb rg ar yc rq n m:Nat)(zz yy:Int)(q:Nat)(mq bt ba cp fi:Int)(tb wd qo lk:Nat)(D:List Ky)(nr:Nat)(f:Int)(S:Ts)(W:Wst)(tz:Int)(E:E3)(S2:Ts)(W2:Wst)(E2:E3)(nz oz og wy:Int)(L:List UInt8)(hd:Bo S W.now bt= [nz])(hr:FK (⟨bt,ba,cp⟩:Cf) W.now (S,W) [nz])(hp:EX (⟨bt,ba,cp⟩:Cf) W.now (S,W) [nz]=(S2,W2))(ha:D4 (⟨bt,ba,cp⟩:Cf) W.now (S,W) [nz]= [(⟨0,(1,oz,og),wy,1⟩:At)])(hG:Aa E (1,oz,og)=some (L, -1,0,0,2))(hS:Au E (1,oz,og) (L,tz,0,wy,3)=E2)(_:0≤ -(nr:Int)+99999)(_:0≤bt-1)(_:0≤ -bt+64)(_:0≤ba-1)(_:0≤cp-ba)(_:0≤ -cp+1048576)(_:0≤mq-1)(_:0≤oz)(_:0≤ -oz+63)(_:0≤og-1)(_:0≤ -og+4294967295)(_:0≤wy-1)(_:0≤ -wy+3)(_:0≤tz)(_:0≤ -tz+9999)(_:0≤(S2.R.length:Int)-(((AT S2.R 3).length:Nat):Int)):HQ 7 [pV mb,.agg #[iV 14,iV 0,iV 0,iV 0,iV 0,sV []]] [BU mb rg m D nr,AU rg ar yc rq n m zz yy q mq bt ba cp fi tb wd qo lk,Bl rq q f,TW tb 256 S,Wd wd W,Cl qo [iV mq,pO] 191,Bj lk tz E] (.agg #[iV 0,iV 0]) [BU mb rg m D (nr+1),AU rg ar yc rq n m zz yy q mq bt ba cp fi tb wd qo lk,Bl rq q f,TW tb 256 S2,Wd wd W2,Cl qo [iV mq,pO] 191,Bj lk (tz+1) E2]:=by
 refine AC func7 ntmps7 fun g w0 R h0=> ?_
 obtain⟨a,d,e,o,u,Z,aa,G⟩:=BX h0
 have H:sat g _ (Cl mb [iV m,pV rg,.slice a D.length d,.slice e nr o] 70::_):=G
 refine g0<|nP 37 [iV 14,iV 0,iV 0,iV 0,iV 0,sV []] H (fun ab _ I=> ?_)
 refine nP 34 [iV 0,iV 0] I (fun ac _ J=> ?_)
 have M:=J.b.t12
 refine g0<|AF call17 (Ai mb m rg a D.length d e nr o) M fun _ y=> ?_
 have N:=y.j.j.j.j.j.j.f.t12
 refine go [rd 3 1 2 0 6 y]<|cP call18 (TB mb m rg a D.length d e nr o ar yc rq n zz yy q mq bt ba cp fi tb wd qo lk f S W tz E nz S2 W2 oz og wy L E2 hd hr hp ha hG hS om om om om om om om om om om om om om om om) N ?_
 rintro v K _ (⟨rfl,rfl⟩) O
 refine nP 34 [iV 0,iV 0] (IW O) (fun ad _ P=> ?_)
 refine sA [iV 0,iV 0] P fun _ Q=>g0<|dw (AE [0,1,2,3,4,5] (Tr.an 6 (Tr.an 7 (AE [8,9] (Tr.an 10 Tr.nil))))) Q fun _ t=>go [rd 4 4 1 3 1 t,rd 4 5 0 0 2 t]<|nG (fun q_=> .slice (some ⟨q_,0,none⟩) 1 1) 34 [iV 0,iV 0] t (fun T _ z=>⟨kd [rd 0 4 2 3 1 z],?_⟩)
 have A:=z.l.t14
 refine AH ?_
 refine aA 20 2 (Ot 17) (Ot 19) (.agg #[iV 0,iV 0]) e nr o 1 1 (⟨T,0,none⟩) 16 underlying68 A (fl Fo [(0,0)]) rfl (Br A rfl) (Aw Cx _) (nr+1) ?_
 intro p s ae U
 have B:sat g _ (Sl 34 2 p (nr+1) s (fl Fo (u++ [(0,0)]))::_):=sJ U
 obtain⟨af,ag⟩:=BH B
 refine⟨kd [],DE ?_⟩
 have V:=B.c.t14
 refine g0<|sG [(3,.slice p (nr+1) s)] [iV m,pV rg,.slice a D.length d,.slice p (nr+1) s] V fun _ C=>⟨kd [],?_⟩
 have X:=C.j.t14
 refine go [rd 5 0 3 0 2 C]<|sA [iV 0,iV 0] X fun ah F=>g0 ?_
 have Y:sat g _ (BU mb rg m D (nr+1)::_):=BC mb rg m D (nr+1) a d p s (u++ [(0,0)]) om om F.b.l.c.t14
 exact AD _ [rd 0 0 0 0 2 F] Y.i.i.i.i.i.i.f.t12.k.x.x.x.x.x.x.x.t8
theorem Lz(F a t u:Nat)(y:Option Addr)(i z:Nat)(X:Option Addr)(Y Z:Nat)(G:List Ky)(H I A J:Nat)(L M:Int)(B:Nat)(N O P Q S:Int)(C D T U b aa:Nat)(ab:Int)(k:Ts)(E:Wst)(f l:Int)(m:Ts)(o p:Int)(q:List UInt8)(V:Ts)(ac:Ba k (1,(b:Int),f)=0)(ad:(CR k (1,(b:Int),f)).num=l)(ae:EC k (1,(b:Int),f)=true)(af:Dw k (1,(b:Int),f)=m)(ag:AZ m l=⟨(1,o,p),1,0,0,0,q⟩)(ah:nE m l=0)(ai:CS m l ⟨(1,o,p),2,1,0,0,q⟩=0)(aj:Cc m l ⟨(1,o,p),2,1,0,0,q⟩=V)(ak:E.now=0)(W:G[a]? =some (1,(b:Int),f))(_:0≤(i:Int)-(a:Int)-1)(_:0≤f-1)(_:0≤ -f+4294967295)(_:0≤ -(b:Int)+255)(_:0≤o)(_:0≤ -o+63)(_:0≤p-1)(_:0≤ -p+4294967295)(_:0≤(Ag q))(_:0≤ -(Ag q)):HQ 84 [pV F,.agg #[iV 12,iV 0,iV a,iV 0,iV 0,sV []]] [Cl F [iV t,pV u,.slice y i z,.slice X Y Z] 70,Sl 39 3 y i z (fl eO G),AU u H I A J t L M B N O P Q S C D T U,D2 A B b aa ab,TW C 256 k,Wd D E] (.agg #[iV 0,iV 0]) [Cl F [iV t,pV u,.slice y i z,.slice X Y Z] 70,Sl 39 3 y i z (fl eO G),AU u H I A J t L M B N O P Q S C D T U,Bl A B 0,TW C 256 V,Wd D E]:=by
 refine AC func84 ntmps84 fun g w0 R h0=>g0<|nP 37 [iV 12,iV 0,iV a,iV 0,iV 0,sV []] h0 (fun _ _ ar=> ?_)
 refine nP 34 [iV 0,iV 0] ar (fun _ _ au=> ?_)
 refine g0<|dw (AE [0,1,2,3,4,5,6,7,8,9,10,11] (Tr.an 12 (Tr.fl 13 (Tr.an 14 Tr.nil)))) au fun _ al=> ?_
 obtain⟨ap,ao⟩:=Av (j:=3) al rfl om
 refine go [rd 1 3 2 1 1 al,rd 1 7 2 2 1 al,rd 1 9 1 2 1 al,.s 1 10]<|lw (.pointer (some ⟨ap,a*3,none⟩)) (fun _=>Ft (Ot 12) (Ot 14) y ap 0 (a:Int) i z underlying67 3 a ao (a*3)) ?_
 have am:=al.c.t9
 have ay:=Ca B6 dc am
 have av:=am.x.x.x.x.t9
 refine go [.r 1 11 ap (a*3) [iV 1,iV b,uV f] ⟨CM 0 am rfl ao B6 0 (iV 1) W (a*3),CM 0 am rfl ao B6 1 (iV b) W (a*3+1),CM 0 am rfl ao B6 2 (uV f) W (a*3+2),trivial⟩]<|Rb call141 (qV u H I A J t L M B N O P Q S C D T U q k m V E o p l b f aa ab ac ad ae af ag ah ai aj ak om om om om om om om om om) av fun _ aw=>⟨kd [],?_⟩
 have ax:=aw.e.t9
 refine g0<|sB [iV 0,iV 0] ax fun _ aq=>⟨kd [],?_⟩
 refine g0 ?_
 exact AD _ [rd 0 0 0 0 2 aq] aq.d.d.d.d.e.x.t9.h.f.f.f.f.f.f.t7
theorem TC(F a e u:Nat)(y:Option Addr)(i A:Nat)(I:Option Addr)(J L:Nat)(G:List Ky)(M N B O:Nat)(P Q:Int)(C:Nat)(S T U V W:Int)(D E X Y b aa:Nat)(ab:Int)(k:Ts)(H:Wst)(c l:Int)(o:Ts)(p q:Int)(s:List UInt8)(Z:Ts)(ac:Ba k (1,(b:Int),c)=0)(ad:(CR k (1,(b:Int),c)).num=l)(ae:EC k (1,(b:Int),c)=true)(af:Dw k (1,(b:Int),c)=o)(ag:AZ o l=⟨(1,p,q),1,0,0,0,s⟩)(ah:nE o l=0)(ai:CS o l ⟨(1,p,q),2,1,0,0,s⟩=0)(aj:Cc o l ⟨(1,p,q),2,1,0,0,s⟩=Z)(ak:H.now=0)(al:G[a]? =some (1,(b:Int),c))(_:0≤ -(a:Int)+1999)(_:0≤(e:Int)-1)(_:0≤(i:Int)-(a:Int)-1)(_:0≤c-1)(_:0≤ -c+4294967295)(_:0≤ -(b:Int)+255)(_:0≤p)(_:0≤ -p+63)(_:0≤q-1)(_:0≤ -q+4294967295)(_:0≤(Ag s))(_:0≤ -(Ag s)):HQ 18 [pV F,.agg #[iV 12,iV 0,iV a,iV 0,iV 0,sV []]] [Cl F [iV e,pV u,.slice y i A,.slice I J L] 70,Sl 39 3 y i A (fl eO G),AU u M N B O e P Q C S T U V W D E X Y,D2 B C b aa ab,TW D 256 k,Wd E H] (.agg #[iV 0,iV 0]) [Cl F [iV e,pV u,.slice y i A,.slice I J L] 70,Sl 39 3 y i A (fl eO G),AU u M N B O e P Q C S T U V W D E X Y,Bl B C 0,TW D 256 Z,Wd E H]:=by
 refine AC func18 ntmps18 fun g w0 R h0=>g0<|nP 37 [iV 12,iV 0,iV a,iV 0,iV 0,sV []] h0 (fun _ _ ax=> ?_)
 refine nP 34 [iV 0,iV 0] ax (fun _ _ aq=> ?_)
 refine go [rd 1 0 1 0 6 aq]<|AP call34 (Ir a om om) aq fun _ ay=>g0<|dw (AE [0,1] (Tr.an 2 (AE [3,4,5,6,7,8,9,10,11,12] Tr.nil))) ay fun _ ar=>go [rd 3 1 1 0 1 ar]<|CJ call35 Su ar fun _ ao=>⟨kd [],?_⟩
 refine go [rd 3 5 1 1 1 ao,rd 3 9 2 0 1 ao,.v 3 10 (oF (0≥(e:Int)))]<|dw (AE [0,1] (Tr.an 2 (AE [3,4,5,6,7,8,9,10,11,12,13] Tr.nil))) ao fun _ au=>go [rd 4 1 1 0 1 au]<|CJ call36 Sw au fun _ ap=>⟨kd [],?_⟩
 refine go [rd 4 5 1 2 1 ap,rd 4 9 2 2 1 ap,.v 4 11 (oF ((a:Int)≥(i:Int)))]<|dw (AE [1,2] (Tr.an 0 (Tr.an 3 (AE [4,5,6,7,8] Tr.nil)))) ap fun _ av=>go [rd 6 2 1 0 1 av]<|cG call37 Aq av ?_
 rintro v K _ (⟨bc,rfl,rfl⟩) az
 have am:=B3 az
 refine⟨kd [rd 0 2 2 0 1 am],?_⟩
 refine AH ?_
 refine AX (d:=43) (.tuple #[.func (Fn.func 84) #[] #[],bT]) kr rfl (BN (t:=106) (z:=Value.nilFunc) (m:=Ot 40) (x:=Ot 42) (kv:=kI) (ve:=vF) kr underlying106 Dc kr 12 kr kr (j:=0) am rfl (.func (Fn.func 84) #[] #[]) 84 (AG om (AG om (AG om (AG om (AG om (Bz rfl)))))) rfl) ?_
 refine⟨kd [],DE ?_⟩
 have ba:=am.h.h.h.h.h.h.t10
 refine go [rd 8 2 2 0 6 am]<|U7 call84 (Lz F a e u y i A I J L G M N B O P Q C S T U V W D E X Y b aa ab k H c l o p q s Z ac ad ae af ag ah ai aj ak al om om om om om om om om om om) ba fun _ bb=>sA [iV 0,iV 0] bb.x.t10 fun _ aw=>g0 ?_
 exact AD _ [rd 0 0 0 0 2 aw] aw.f.f.f.f.f.f.t10.i.f.f.f.f.f.f.t7
theorem Qv(mb rg ar yc rq n m:Nat)(zz yy:Int)(q:Nat)(mq bt ba cp fi:Int)(tb wd qo lk:Nat)(D:List Ky)(nr:Nat)(L:List UInt8)(S S2 S3:Ts)(W:Wst)(oz og nz:Int)(dk:Nat)(dg:Int)(s:Nat)(gn:Int)(i:Nat)(hF:Ba S (1,(dk:Int),dg)=0)(hN:(CR S (1,(dk:Int),dg)).num=nz)(hL:EC S (1,(dk:Int),dg)=true)(hS:Dw S (1,(dk:Int),dg)=S2)(hG:AZ S2 nz=⟨(1,oz,og),1,0,0,0,L⟩)(hE:nE S2 nz=0)(hX:CS S2 nz ⟨(1,oz,og),2,1,0,0,L⟩=0)(hY:Cc S2 nz ⟨(1,oz,og),2,1,0,0,L⟩=S3)(hW:W.now=0)(hD:D[i]? =some (1,(dk:Int),dg))(_:0≤ -(nr:Int)+99999)(_:0≤dg-1)(_:0≤ -dg+4294967295)(_:0≤ -(dk:Int)+255)(_:0≤oz)(_:0≤ -oz+63)(_:0≤og-1)(_:0≤ -og+4294967295)(_:0≤(Ag L))(_:0≤ -(Ag L))(_:0≤(D.length:Int)-(i:Int)-1)(_:0≤(m:Int)-1):HQ 7 [pV mb,.agg #[iV 12,iV 0,iV i,iV 0,iV 0,sV []]] [BU mb rg m D nr,AU rg ar yc rq n m zz yy q mq bt ba cp fi tb wd qo lk,D2 rq q dk s gn,TW tb 256 S,Wd wd W] (.agg #[iV 0,iV 0]) [BU mb rg m D (nr+1),AU rg ar yc rq n m zz yy q mq bt ba cp fi tb wd qo lk,Bl rq q 0,TW tb 256 S3,Wd wd W]:=by
 refine AC func7 ntmps7 fun g w0 R h0=> ?_
 obtain⟨a,f,k,l,u,Y,Z,F⟩:=BX h0
 have G:sat g _ (Cl mb [iV m,pV rg,.slice a D.length f,.slice k nr l] 70::_):=F
 refine g0<|nP 37 [iV 12,iV 0,iV i,iV 0,iV 0,sV []] G (fun aa _ H=> ?_)
 refine nP 34 [iV 0,iV 0] H (fun ab _ I=> ?_)
 have J:=I.b.t10
 refine g0<|AF call17 (Ai mb m rg a D.length f k nr l) J fun _ y=> ?_
 have M:=y.h.h.h.h.x.e.t10
 refine go [rd 3 1 2 0 6 y]<|U7 call18 (TC mb i m rg a D.length f k nr l D ar yc rq n zz yy q mq bt ba cp fi tb wd qo lk dk s gn S W dg nz S2 oz og L S3 hF hN hL hS hG hE hX hY hW hD om om om om om om om om om om om om) M fun _ N=>nP 34 [iV 0,iV 0] N (fun ac _ O=> ?_)
 refine sA [iV 0,iV 0] O fun _ P=>g0<|dw (AE [0,1,2,3,4,5] (Tr.an 6 (Tr.an 7 (AE [8,9] (Tr.an 10 Tr.nil))))) P fun _ t=>go [rd 4 4 1 3 1 t,rd 4 5 0 0 2 t]<|nG (fun q_=> .slice (some ⟨q_,0,none⟩) 1 1) 34 [iV 0,iV 0] t (fun Q _ z=>⟨kd [rd 0 4 2 3 1 z],?_⟩)
 have A:=z.j.t12
 refine AH ?_
 refine aA 20 2 (Ot 17) (Ot 19) (.agg #[iV 0,iV 0]) k nr l 1 1 (⟨Q,0,none⟩) 16 underlying68 A (fl Fo [(0,0)]) rfl (Br A rfl) (Aw Cx _) (nr+1) ?_
 intro o p ad T
 have B:sat g _ (Sl 34 2 o (nr+1) p (fl Fo (u++ [(0,0)]))::_):=sJ T
 obtain⟨ae,af⟩:=BH B
 refine⟨kd [],DE ?_⟩
 have U:=B.c.t12
 refine g0<|sG [(3,.slice o (nr+1) p)] [iV m,pV rg,.slice a D.length f,.slice o (nr+1) p] U fun _ C=>⟨kd [],?_⟩
 have V:=C.i.t12
 refine go [rd 5 0 3 0 2 C]<|sA [iV 0,iV 0] V fun ag E=>g0 ?_
 have X:sat g _ (BU mb rg m D (nr+1)::_):=BC mb rg m D (nr+1) a f o p (u++ [(0,0)]) om om E.b.e.c.t12
 exact AD _ [rd 0 0 0 0 2 E] X.x.x.x.x.d.t10.i.e.e.e.e.e.t6
theorem L0(t a k l:Nat)(m:Option Addr)(f o:Nat)(O:Option Addr)(P Q:Nat)(u:List Ky)(x y z A:Nat)(B C:Int)(D:Nat)(E F G H I:Int)(p J L M:Nat)(q:Ts)(i:Nat)(d:Int)(S:Ba q (1,(i:Int),d)=7)(N:u[a]? =some (1,(i:Int),d))(_:0≤(f:Int)-(a:Int)-1)(_:0≤d-1)(_:0≤ -d+4294967295)(_:0≤ -(i:Int)+255):HQ 84 [pV t,.agg #[iV 12,iV 0,iV a,iV 0,iV 0,sV []]] [Cl t [iV k,pV l,.slice m f o,.slice O P Q] 70,Sl 39 3 m f o (fl eO u),AU l x y z A k B C D E F G H I p J L M,TW p 256 q] (.agg #[iV 7,iV 0]) [Cl t [iV k,pV l,.slice m f o,.slice O P Q] 70,Sl 39 3 m f o (fl eO u),AU l x y z A k B C D E F G H I p J L M,TW p 256 q]:=by
 refine AC func84 ntmps84 fun g w0 R h0=>g0<|nP 37 [iV 12,iV 0,iV a,iV 0,iV 0,sV []] h0 (fun _ _ Y=> ?_)
 refine nP 34 [iV 0,iV 0] Y (fun _ _ Z=> ?_)
 refine g0<|dw (AE [0,1,2,3,4,5,6,7,8,9,10,11] (Tr.an 12 (Tr.fl 13 (Tr.an 14 Tr.nil)))) Z fun _ T=> ?_
 obtain⟨W,V⟩:=Av (j:=3) T rfl om
 refine go [rd 1 3 2 1 1 T,rd 1 7 2 2 1 T,rd 1 9 1 2 1 T,.s 1 10]<|lw (.pointer (some ⟨W,a*3,none⟩)) (fun _=>Ft (Ot 12) (Ot 14) m W 0 (a:Int) f o underlying67 3 a V (a*3)) ?_
 have U:=T.c.t7
 have ad:=Ca B6 dc U
 have aa:=U.e.e.t7
 refine go [.r 1 11 W (a*3) [iV 1,iV i,uV d] ⟨CM 0 U rfl V B6 0 (iV 1) N (a*3),CM 0 U rfl V B6 1 (iV i) N (a*3+1),CM 0 U rfl V B6 2 (uV d) N (a*3+2),trivial⟩]<|FN call141 (qX l x y z A k B C D E F G H I p J L M q i d S om om om) aa fun _ ab=>⟨kd [],?_⟩
 have ac:=ab.c.t7
 refine g0<|sB [iV 7,iV 0] ac fun _ X=>⟨kd [],?_⟩
 refine g0 ?_
 exact AD _ [rd 0 0 0 0 2 X] X.b.b.c.e.t7.f.d.d.d.d.t5
theorem TD(q a b i:Nat)(k:Option Addr)(c l:Nat)(A:Option Addr)(B C:Nat)(s:List Ky)(D E F G:Nat)(H I:Int)(J:Nat)(L M N O P:Int)(o Q S T:Nat)(u:Ts)(y:Nat)(p:Int)(U:Ba u (1,(y:Int),p)=7)(V:s[a]? =some (1,(y:Int),p))(_:0≤ -(a:Int)+1999)(_:0≤(b:Int)-1)(_:0≤(c:Int)-(a:Int)-1)(_:0≤p-1)(_:0≤ -p+4294967295)(_:0≤ -(y:Int)+255):HQ 18 [pV q,.agg #[iV 12,iV 0,iV a,iV 0,iV 0,sV []]] [Cl q [iV b,pV i,.slice k c l,.slice A B C] 70,Sl 39 3 k c l (fl eO s),AU i D E F G b H I J L M N O P o Q S T,TW o 256 u] (.agg #[iV 7,iV 0]) [Cl q [iV b,pV i,.slice k c l,.slice A B C] 70,Sl 39 3 k c l (fl eO s),AU i D E F G b H I J L M N O P o Q S T,TW o 256 u]:=by
 refine AC func18 ntmps18 fun g w0 R h0=>g0<|nP 37 [iV 12,iV 0,iV a,iV 0,iV 0,sV []] h0 (fun _ _ ae=> ?_)
 refine nP 34 [iV 0,iV 0] ae (fun _ _ Z=> ?_)
 refine go [rd 1 0 1 0 6 Z]<|AP call34 (Ir a om om) Z fun _ af=>g0<|dw (AE [0,1] (Tr.an 2 (AE [3,4,5,6,7,8,9,10,11,12] Tr.nil))) af fun _ aa=>go [rd 3 1 1 0 1 aa]<|CJ call35 Su aa fun _ X=>⟨kd [],?_⟩
 refine go [rd 3 5 1 1 1 X,rd 3 9 2 0 1 X,.v 3 10 (oF (0≥(b:Int)))]<|dw (AE [0,1] (Tr.an 2 (AE [3,4,5,6,7,8,9,10,11,12,13] Tr.nil))) X fun _ ab=>go [rd 4 1 1 0 1 ab]<|CJ call36 Sw ab fun _ Y=>⟨kd [],?_⟩
 refine go [rd 4 5 1 2 1 Y,rd 4 9 2 2 1 Y,.v 4 11 (oF ((a:Int)≥(c:Int)))]<|dw (AE [1,2] (Tr.an 0 (Tr.an 3 (AE [4,5,6,7,8] Tr.nil)))) Y fun _ ac=>go [rd 6 2 1 0 1 ac]<|cG call37 Aq ac ?_
 rintro v K _ (⟨aj,rfl,rfl⟩) ag
 have W:=B3 ag
 refine⟨kd [rd 0 2 2 0 1 W],?_⟩
 refine AH ?_
 refine AX (d:=43) (.tuple #[.func (Fn.func 84) #[] #[],bT]) kr rfl (BN (t:=106) (z:=Value.nilFunc) (m:=Ot 40) (x:=Ot 42) (kv:=kI) (ve:=vF) kr underlying106 Dc kr 12 kr kr (j:=0) W rfl (.func (Fn.func 84) #[] #[]) 84 (AG om (AG om (AG om (AG om (AG om (Bz rfl)))))) rfl) ?_
 refine⟨kd [],DE ?_⟩
 have ah:=W.f.f.f.f.t8
 refine go [rd 8 2 2 0 6 W]<|IL call84 (L0 q a b i k c l A B C s D E F G H I J L M N O P o Q S T u y p U V om om om om) ah fun _ ai=>sA [iV 7,iV 0] ai.e.t8 fun _ ad=>g0 ?_
 exact AD _ [rd 0 0 0 0 2 ad] ad.d.d.d.d.t8.x.d.d.d.d.t5
theorem aE(mb rg ar yc rq n m:Nat)(zz yy:Int)(q:Nat)(mq bt ba cp fi:Int)(tb wd qo lk:Nat)(D:List Ky)(nr:Nat)(S:Ts)(dk:Nat)(dg:Int)(i:Nat)(hF:Ba S (1,(dk:Int),dg)=7)(hD:D[i]? =some (1,(dk:Int),dg))(_:0≤ -(nr:Int)+99999)(_:0≤dg-1)(_:0≤ -dg+4294967295)(_:0≤ -(dk:Int)+255)(_:0≤(D.length:Int)-(i:Int)-1)(_:0≤(m:Int)-1):HQ 7 [pV mb,.agg #[iV 12,iV 0,iV i,iV 0,iV 0,sV []]] [BU mb rg m D nr,AU rg ar yc rq n m zz yy q mq bt ba cp fi tb wd qo lk,TW tb 256 S] (.agg #[iV 7,iV 0]) [BU mb rg m D (nr+1),AU rg ar yc rq n m zz yy q mq bt ba cp fi tb wd qo lk,TW tb 256 S]:=by
 refine AC func7 ntmps7 fun g w0 R h0=> ?_
 obtain⟨a,d,j,k,s,U,V,C⟩:=BX h0
 have E:sat g _ (Cl mb [iV m,pV rg,.slice a D.length d,.slice j nr k] 70::_):=C
 refine g0<|nP 37 [iV 12,iV 0,iV i,iV 0,iV 0,sV []] E (fun W _ F=> ?_)
 refine nP 34 [iV 0,iV 0] F (fun X _ G=> ?_)
 have H:=G.b.t8
 refine g0<|AF call17 (Ai mb m rg a D.length d j nr k) H fun _ t=> ?_
 have I:=t.f.f.e.c.t8
 refine go [rd 3 1 2 0 6 t]<|IL call18 (TD mb i m rg a D.length d j nr k D ar yc rq n zz yy q mq bt ba cp fi tb wd qo lk S dk dg hF hD om om om om om om) I fun _ J=>nP 34 [iV 0,iV 0] J (fun Y _ L=> ?_)
 refine sA [iV 7,iV 0] L fun _ M=>g0<|dw (AE [0,1,2,3,4,5] (Tr.an 6 (Tr.an 7 (AE [8,9] (Tr.an 10 Tr.nil))))) M fun _ p=>go [rd 4 4 1 3 1 p,rd 4 5 0 0 2 p]<|nG (fun q_=> .slice (some ⟨q_,0,none⟩) 1 1) 34 [iV 7,iV 0] p (fun N _ u=>⟨kd [rd 0 4 2 3 1 u],?_⟩)
 have y:=u.h.t10
 refine AH ?_
 refine aA 20 2 (Ot 17) (Ot 19) (.agg #[iV 0,iV 0]) j nr k 1 1 (⟨N,0,none⟩) 16 underlying68 y (fl Fo [(7,0)]) rfl (Br y rfl) (Aw Cx _) (nr+1) ?_
 intro l o Z O
 have z:sat g _ (Sl 34 2 l (nr+1) o (fl Fo (s++ [(7,0)]))::_):=sJ O
 obtain⟨aa,ab⟩:=BH z
 refine⟨kd [],DE ?_⟩
 have P:=z.c.t10
 refine g0<|sG [(3,.slice l (nr+1) o)] [iV m,pV rg,.slice a D.length d,.slice l (nr+1) o] P fun _ A=>⟨kd [],?_⟩
 have Q:=A.x.t10
 refine go [rd 5 0 3 0 2 A]<|sA [iV 7,iV 0] Q fun ac B=>g0 ?_
 have T:sat g _ (BU mb rg m D (nr+1)::_):=BC mb rg m D (nr+1) a d l o (s++ [(7,0)]) om om B.b.e.c.t10
 exact AD _ [rd 0 0 0 0 2 B] T.e.e.b.t8.x.c.c.c.t4
theorem Qw(e c:Nat)(a:Int)(i j k l m:Nat)(o p:Int)(q:Nat)(s t u x y:Int)(d z A B:Nat)(f:Ts)(D:Ba f (1,(c:Int),a)=7)(_:0≤ -(c:Int)+255)(_:0≤a-1)(_:0≤ -a+4294967295):HQ 139 [pV e,.agg #[iV 1,iV c,uV a]] [AU e j k l m i o p q s t u x y d z A B,TW d 256 f] (iV 7) [AU e j k l m i o p q s t u x y d z A B,TW d 256 f]:=by
 refine AC func139 ntmps139 fun g w0 R h0=>g0<|nP 39 [iV 1,iV c,uV a] h0 (fun _ _ E=> ?_)
 have F:=E.b.b.t4
 refine go [rd 1 1 0 0 3 E]<|DF call207 (JP e c a j k l m i o p q s t u x y d z A B f D om om om) F fun _ G=>g0 ?_
 exact AD _ [] G.C.t3
theorem Qx(t a k l:Nat)(m:Option Addr)(f o:Nat)(O:Option Addr)(P Q:Nat)(u:List Ky)(x y z A:Nat)(B C:Int)(D:Nat)(E F G H I:Int)(p J L M:Nat)(q:Ts)(i:Nat)(d:Int)(S:Ba q (1,(i:Int),d)=7)(N:u[a]? =some (1,(i:Int),d))(_:0≤(f:Int)-(a:Int)-1)(_:0≤ -(i:Int)+255)(_:0≤d-1)(_:0≤ -d+4294967295):HQ 82 [pV t,.agg #[iV 10,iV 0,iV a,iV 0,iV 0,sV []]] [Cl t [iV k,pV l,.slice m f o,.slice O P Q] 70,Sl 39 3 m f o (fl eO u),AU l x y z A k B C D E F G H I p J L M,TW p 256 q] (.agg #[iV 7,iV 0]) [Cl t [iV k,pV l,.slice m f o,.slice O P Q] 70,Sl 39 3 m f o (fl eO u),AU l x y z A k B C D E F G H I p J L M,TW p 256 q]:=by
 refine AC func82 ntmps82 fun g w0 R h0=>g0<|nP 37 [iV 10,iV 0,iV a,iV 0,iV 0,sV []] h0 (fun _ _ Y=> ?_)
 refine nP 34 [iV 0,iV 0] Y (fun _ _ Z=> ?_)
 refine g0<|dw (AE [0,1,2,3,4,5,6,7,8,9,10,11] (Tr.an 12 (Tr.fl 13 (Tr.an 14 Tr.nil)))) Z fun _ T=> ?_
 obtain⟨W,V⟩:=Av (j:=3) T rfl om
 refine go [rd 1 3 2 1 1 T,rd 1 7 2 2 1 T,rd 1 9 1 2 1 T,.s 1 10]<|lw (.pointer (some ⟨W,a*3,none⟩)) (fun _=>Ft (Ot 12) (Ot 14) m W 0 (a:Int) f o underlying67 3 a V (a*3)) ?_
 have U:=T.c.t7
 have ad:=Ca B6 dc U
 have aa:=U.e.e.t7
 refine go [.r 1 11 W (a*3) [iV 1,iV i,uV d] ⟨CM 0 U rfl V B6 0 (iV 1) N (a*3),CM 0 U rfl V B6 1 (iV i) N (a*3+1),CM 0 U rfl V B6 2 (uV d) N (a*3+2),trivial⟩]<|FN call139 (Qw l i d k x y z A B C D E F G H I p J L M q S om om om) aa fun _ ab=>⟨kd [],?_⟩
 have ac:=ab.c.t7
 refine g0<|sB [iV 7,iV 0] ac fun _ X=>⟨kd [],?_⟩
 refine g0 ?_
 exact AD _ [rd 0 0 0 0 2 X] X.b.b.c.e.t7.f.d.d.d.d.t5
theorem TE(q a b i:Nat)(k:Option Addr)(c l:Nat)(A:Option Addr)(B C:Nat)(s:List Ky)(D E F G:Nat)(H I:Int)(J:Nat)(L M N O P:Int)(o Q S T:Nat)(u:Ts)(y:Nat)(p:Int)(U:Ba u (1,(y:Int),p)=7)(V:s[a]? =some (1,(y:Int),p))(_:0≤ -(a:Int)+1999)(_:0≤(b:Int)-1)(_:0≤(c:Int)-(a:Int)-1)(_:0≤ -(y:Int)+255)(_:0≤p-1)(_:0≤ -p+4294967295):HQ 18 [pV q,.agg #[iV 10,iV 0,iV a,iV 0,iV 0,sV []]] [Cl q [iV b,pV i,.slice k c l,.slice A B C] 70,Sl 39 3 k c l (fl eO s),AU i D E F G b H I J L M N O P o Q S T,TW o 256 u] (.agg #[iV 7,iV 0]) [Cl q [iV b,pV i,.slice k c l,.slice A B C] 70,Sl 39 3 k c l (fl eO s),AU i D E F G b H I J L M N O P o Q S T,TW o 256 u]:=by
 refine AC func18 ntmps18 fun g w0 R h0=>g0<|nP 37 [iV 10,iV 0,iV a,iV 0,iV 0,sV []] h0 (fun _ _ ae=> ?_)
 refine nP 34 [iV 0,iV 0] ae (fun _ _ Z=> ?_)
 refine go [rd 1 0 1 0 6 Z]<|AP call34 (Uh a om om) Z fun _ af=>g0<|dw (AE [0,1] (Tr.an 2 (AE [3,4,5,6,7,8,9,10,11,12] Tr.nil))) af fun _ aa=>go [rd 3 1 1 0 1 aa]<|CJ call35 Zo aa fun _ X=>⟨kd [],?_⟩
 refine go [rd 3 5 1 1 1 X,rd 3 9 2 0 1 X,.v 3 10 (oF (0≥(b:Int)))]<|dw (AE [0,1] (Tr.an 2 (AE [3,4,5,6,7,8,9,10,11,12,13] Tr.nil))) X fun _ ab=>go [rd 4 1 1 0 1 ab]<|CJ call36 Zp ab fun _ Y=>⟨kd [],?_⟩
 refine go [rd 4 5 1 2 1 Y,rd 4 9 2 2 1 Y,.v 4 11 (oF ((a:Int)≥(c:Int)))]<|dw (AE [1,2] (Tr.an 0 (Tr.an 3 (AE [4,5,6,7,8] Tr.nil)))) Y fun _ ac=>go [rd 6 2 1 0 1 ac]<|cG call37 Aq ac ?_
 rintro v K _ (⟨aj,rfl,rfl⟩) ag
 have W:=B3 ag
 refine⟨kd [rd 0 2 2 0 1 W],?_⟩
 refine AH ?_
 refine AX (d:=43) (.tuple #[.func (Fn.func 82) #[] #[],bT]) kr rfl (BN (t:=106) (z:=Value.nilFunc) (m:=Ot 40) (x:=Ot 42) (kv:=kI) (ve:=vF) kr underlying106 Dc kr 10 kr kr (j:=0) W rfl (.func (Fn.func 82) #[] #[]) 82 (AG om (AG om (AG om (Bz rfl)))) rfl) ?_
 refine⟨kd [],DE ?_⟩
 have ah:=W.f.f.f.f.t8
 refine go [rd 8 2 2 0 6 W]<|IL call82 (Qx q a b i k c l A B C s D E F G H I J L M N O P o Q S T u y p U V om om om om) ah fun _ ai=>sA [iV 7,iV 0] ai.e.t8 fun _ ad=>g0 ?_
 exact AD _ [rd 0 0 0 0 2 ad] ad.d.d.d.d.t8.x.d.d.d.d.t5
theorem aF(mb rg ar yc rq n m:Nat)(zz yy:Int)(q:Nat)(mq bt ba cp fi:Int)(tb wd qo lk:Nat)(D:List Ky)(nr:Nat)(S:Ts)(dk:Nat)(dg:Int)(i:Nat)(hF:Ba S (1,(dk:Int),dg)=7)(hD:D[i]? =some (1,(dk:Int),dg))(_:0≤ -(nr:Int)+99999)(_:0≤dg-1)(_:0≤ -dg+4294967295)(_:0≤ -(dk:Int)+255)(_:0≤(D.length:Int)-(i:Int)-1)(_:0≤(m:Int)-1):HQ 7 [pV mb,.agg #[iV 10,iV 0,iV i,iV 0,iV 0,sV []]] [BU mb rg m D nr,AU rg ar yc rq n m zz yy q mq bt ba cp fi tb wd qo lk,TW tb 256 S] (.agg #[iV 7,iV 0]) [BU mb rg m D (nr+1),AU rg ar yc rq n m zz yy q mq bt ba cp fi tb wd qo lk,TW tb 256 S]:=by
 refine AC func7 ntmps7 fun g w0 R h0=> ?_
 obtain⟨a,d,j,k,s,U,V,C⟩:=BX h0
 have E:sat g _ (Cl mb [iV m,pV rg,.slice a D.length d,.slice j nr k] 70::_):=C
 refine g0<|nP 37 [iV 10,iV 0,iV i,iV 0,iV 0,sV []] E (fun W _ F=> ?_)
 refine nP 34 [iV 0,iV 0] F (fun X _ G=> ?_)
 have H:=G.b.t8
 refine g0<|AF call17 (Ai mb m rg a D.length d j nr k) H fun _ t=> ?_
 have I:=t.f.f.e.c.t8
 refine go [rd 3 1 2 0 6 t]<|IL call18 (TE mb i m rg a D.length d j nr k D ar yc rq n zz yy q mq bt ba cp fi tb wd qo lk S dk dg hF hD om om om om om om) I fun _ J=>nP 34 [iV 0,iV 0] J (fun Y _ L=> ?_)
 refine sA [iV 7,iV 0] L fun _ M=>g0<|dw (AE [0,1,2,3,4,5] (Tr.an 6 (Tr.an 7 (AE [8,9] (Tr.an 10 Tr.nil))))) M fun _ p=>go [rd 4 4 1 3 1 p,rd 4 5 0 0 2 p]<|nG (fun q_=> .slice (some ⟨q_,0,none⟩) 1 1) 34 [iV 7,iV 0] p (fun N _ u=>⟨kd [rd 0 4 2 3 1 u],?_⟩)
 have y:=u.h.t10
 refine AH ?_
 refine aA 20 2 (Ot 17) (Ot 19) (.agg #[iV 0,iV 0]) j nr k 1 1 (⟨N,0,none⟩) 16 underlying68 y (fl Fo [(7,0)]) rfl (Br y rfl) (Aw Cx _) (nr+1) ?_
 intro l o Z O
 have z:sat g _ (Sl 34 2 l (nr+1) o (fl Fo (s++ [(7,0)]))::_):=sJ O
 obtain⟨aa,ab⟩:=BH z
 refine⟨kd [],DE ?_⟩
 have P:=z.c.t10
 refine g0<|sG [(3,.slice l (nr+1) o)] [iV m,pV rg,.slice a D.length d,.slice l (nr+1) o] P fun _ A=>⟨kd [],?_⟩
 have Q:=A.x.t10
 refine go [rd 5 0 3 0 2 A]<|sA [iV 7,iV 0] Q fun ac B=>g0 ?_
 have T:sat g _ (BU mb rg m D (nr+1)::_):=BC mb rg m D (nr+1) a d l o (s++ [(7,0)]) om om B.b.e.c.t10
 exact AD _ [rd 0 0 0 0 2 B] T.e.e.b.t8.x.c.c.c.t4
theorem L3(E a q t:Nat)(u:Option Addr)(f y:Nat)(W:Option Addr)(X Y:Nat)(F:List Ky)(G H z I:Nat)(J L:Int)(A:Nat)(M N O P Q:Int)(B C S T:Nat)(i:Ts)(D:Wst)(b k:Int)(l:Ts)(m o:Int)(p:List UInt8)(U:Ts)(Z:Ba i (1,0,b)=0)(aa:(CR i (1,0,b)).num=k)(ab:EC i (1,0,b)=true)(ac:Dw i (1,0,b)=l)(ad:AZ l k=⟨(1,m,o),1,0,0,0,p⟩)(ae:nE l k=0)(af:CS l k ⟨(1,m,o),2,1,0,0,p⟩=0)(ag:Cc l k ⟨(1,m,o),2,1,0,0,p⟩=U)(ah:D.now=0)(V:F[a]? =some (1,0,b))(_:0≤(f:Int)-(a:Int)-1)(_:0≤b-1)(_:0≤ -b+4294967295)(_:0≤m)(_:0≤ -m+63)(_:0≤o-1)(_:0≤ -o+4294967295)(_:0≤(Ag p))(_:0≤ -(Ag p)):HQ 84 [pV E,.agg #[iV 12,iV 0,iV a,iV 0,iV 0,sV []]] [Cl E [iV q,pV t,.slice u f y,.slice W X Y] 70,Sl 39 3 u f y (fl eO F),AU t G H z I q J L A M N O P Q B C S T,F1 z A,TW B 256 i,Wd C D] (.agg #[iV 0,iV 0]) [Cl E [iV q,pV t,.slice u f y,.slice W X Y] 70,Sl 39 3 u f y (fl eO F),AU t G H z I q J L A M N O P Q B C S T,Bl z A 0,TW B 256 U,Wd C D]:=by
 refine AC func84 ntmps84 fun g w0 R h0=>g0<|nP 37 [iV 12,iV 0,iV a,iV 0,iV 0,sV []] h0 (fun _ _ ao=> ?_)
 refine nP 34 [iV 0,iV 0] ao (fun _ _ ap=> ?_)
 refine g0<|dw (AE [0,1,2,3,4,5,6,7,8,9,10,11] (Tr.an 12 (Tr.fl 13 (Tr.an 14 Tr.nil)))) ap fun _ ai=> ?_
 obtain⟨al,ak⟩:=Av (j:=3) ai rfl om
 refine go [rd 1 3 2 1 1 ai,rd 1 7 2 2 1 ai,rd 1 9 1 2 1 ai,.s 1 10]<|lw (.pointer (some ⟨al,a*3,none⟩)) (fun _=>Ft (Ot 12) (Ot 14) u al 0 (a:Int) f y underlying67 3 a ak (a*3)) ?_
 have aj:=ai.c.t9
 have av:=Ca B6 dc aj
 have aq:=aj.x.x.x.x.t9
 refine go [.r 1 11 al (a*3) [iV 1,iV 0,uV b] ⟨CM 0 aj rfl ak B6 0 (iV 1) V (a*3),CM 0 aj rfl ak B6 1 (iV 0) V (a*3+1),CM 0 aj rfl ak B6 2 (uV b) V (a*3+2),trivial⟩]<|Rb call141 (qW t G H z I q J L A M N O P Q B C S T p i l U D m o k b Z aa ab ac ad ae af ag ah om om om om om om om om) aq fun _ ar=>⟨kd [],?_⟩
 have au:=ar.e.t9
 refine g0<|sB [iV 0,iV 0] au fun _ am=>⟨kd [],?_⟩
 refine g0 ?_
 exact AD _ [rd 0 0 0 0 2 am] am.d.d.d.d.e.x.t9.h.f.f.f.f.f.f.t7
theorem TF(E a c s:Nat)(u:Option Addr)(e y:Nat)(H:Option Addr)(I J:Nat)(F:List Ky)(L M A N:Nat)(O P:Int)(B:Nat)(Q S T U V:Int)(C D W X:Nat)(i:Ts)(G:Wst)(b k:Int)(l:Ts)(o p:Int)(q:List UInt8)(Y:Ts)(Z:Ba i (1,0,b)=0)(aa:(CR i (1,0,b)).num=k)(ab:EC i (1,0,b)=true)(ac:Dw i (1,0,b)=l)(ad:AZ l k=⟨(1,o,p),1,0,0,0,q⟩)(ae:nE l k=0)(af:CS l k ⟨(1,o,p),2,1,0,0,q⟩=0)(ag:Cc l k ⟨(1,o,p),2,1,0,0,q⟩=Y)(ah:G.now=0)(ai:F[a]? =some (1,0,b))(_:0≤ -(a:Int)+1999)(_:0≤(c:Int)-1)(_:0≤(e:Int)-(a:Int)-1)(_:0≤b-1)(_:0≤ -b+4294967295)(_:0≤o)(_:0≤ -o+63)(_:0≤p-1)(_:0≤ -p+4294967295)(_:0≤(Ag q))(_:0≤ -(Ag q)):HQ 18 [pV E,.agg #[iV 12,iV 0,iV a,iV 0,iV 0,sV []]] [Cl E [iV c,pV s,.slice u e y,.slice H I J] 70,Sl 39 3 u e y (fl eO F),AU s L M A N c O P B Q S T U V C D W X,F1 A B,TW C 256 i,Wd D G] (.agg #[iV 0,iV 0]) [Cl E [iV c,pV s,.slice u e y,.slice H I J] 70,Sl 39 3 u e y (fl eO F),AU s L M A N c O P B Q S T U V C D W X,Bl A B 0,TW C 256 Y,Wd D G]:=by
 refine AC func18 ntmps18 fun g w0 R h0=>g0<|nP 37 [iV 12,iV 0,iV a,iV 0,iV 0,sV []] h0 (fun _ _ au=> ?_)
 refine nP 34 [iV 0,iV 0] au (fun _ _ am=> ?_)
 refine go [rd 1 0 1 0 6 am]<|AP call34 (Ir a om om) am fun _ av=>g0<|dw (AE [0,1] (Tr.an 2 (AE [3,4,5,6,7,8,9,10,11,12] Tr.nil))) av fun _ ao=>go [rd 3 1 1 0 1 ao]<|CJ call35 Su ao fun _ ak=>⟨kd [],?_⟩
 refine go [rd 3 5 1 1 1 ak,rd 3 9 2 0 1 ak,.v 3 10 (oF (0≥(c:Int)))]<|dw (AE [0,1] (Tr.an 2 (AE [3,4,5,6,7,8,9,10,11,12,13] Tr.nil))) ak fun _ ap=>go [rd 4 1 1 0 1 ap]<|CJ call36 Sw ap fun _ al=>⟨kd [],?_⟩
 refine go [rd 4 5 1 2 1 al,rd 4 9 2 2 1 al,.v 4 11 (oF ((a:Int)≥(e:Int)))]<|dw (AE [1,2] (Tr.an 0 (Tr.an 3 (AE [4,5,6,7,8] Tr.nil)))) al fun _ aq=>go [rd 6 2 1 0 1 aq]<|cG call37 Aq aq ?_
 rintro v K _ (⟨az,rfl,rfl⟩) aw
 have aj:=B3 aw
 refine⟨kd [rd 0 2 2 0 1 aj],?_⟩
 refine AH ?_
 refine AX (d:=43) (.tuple #[.func (Fn.func 84) #[] #[],bT]) kr rfl (BN (t:=106) (z:=Value.nilFunc) (m:=Ot 40) (x:=Ot 42) (kv:=kI) (ve:=vF) kr underlying106 Dc kr 12 kr kr (j:=0) aj rfl (.func (Fn.func 84) #[] #[]) 84 (AG om (AG om (AG om (AG om (AG om (Bz rfl)))))) rfl) ?_
 refine⟨kd [],DE ?_⟩
 have ax:=aj.h.h.h.h.h.h.t10
 refine go [rd 8 2 2 0 6 aj]<|U7 call84 (L3 E a c s u e y H I J F L M A N O P B Q S T U V C D W X i G b k l o p q Y Z aa ab ac ad ae af ag ah ai om om om om om om om om om) ax fun _ ay=>sA [iV 0,iV 0] ay.x.t10 fun _ ar=>g0 ?_
 exact AD _ [rd 0 0 0 0 2 ar] ar.f.f.f.f.f.f.t10.i.f.f.f.f.f.f.t7
theorem aH(mb rg ar yc rq n m:Nat)(zz yy:Int)(q:Nat)(mq bt ba cp fi:Int)(tb wd qo lk:Nat)(D:List Ky)(nr:Nat)(L:List UInt8)(S S2 S3:Ts)(W:Wst)(oz og nz dg:Int)(i:Nat)(hF:Ba S (1,0,dg)=0)(hN:(CR S (1,0,dg)).num=nz)(hL:EC S (1,0,dg)=true)(hS:Dw S (1,0,dg)=S2)(hG:AZ S2 nz=⟨(1,oz,og),1,0,0,0,L⟩)(hE:nE S2 nz=0)(hX:CS S2 nz ⟨(1,oz,og),2,1,0,0,L⟩=0)(hY:Cc S2 nz ⟨(1,oz,og),2,1,0,0,L⟩=S3)(hW:W.now=0)(hD:D[i]? =some (1,0,dg))(_:0≤ -(nr:Int)+99999)(_:0≤dg-1)(_:0≤ -dg+4294967295)(_:0≤oz)(_:0≤ -oz+63)(_:0≤og-1)(_:0≤ -og+4294967295)(_:0≤(Ag L))(_:0≤ -(Ag L))(_:0≤(D.length:Int)-(i:Int)-1)(_:0≤(m:Int)-1):HQ 7 [pV mb,.agg #[iV 12,iV 0,iV i,iV 0,iV 0,sV []]] [BU mb rg m D nr,AU rg ar yc rq n m zz yy q mq bt ba cp fi tb wd qo lk,F1 rq q,TW tb 256 S,Wd wd W] (.agg #[iV 0,iV 0]) [BU mb rg m D (nr+1),AU rg ar yc rq n m zz yy q mq bt ba cp fi tb wd qo lk,Bl rq q 0,TW tb 256 S3,Wd wd W]:=by
 refine AC func7 ntmps7 fun g w0 R h0=> ?_
 obtain⟨a,f,k,l,t,X,Y,E⟩:=BX h0
 have F:sat g _ (Cl mb [iV m,pV rg,.slice a D.length f,.slice k nr l] 70::_):=E
 refine g0<|nP 37 [iV 12,iV 0,iV i,iV 0,iV 0,sV []] F (fun Z _ G=> ?_)
 refine nP 34 [iV 0,iV 0] G (fun aa _ H=> ?_)
 have I:=H.b.t10
 refine g0<|AF call17 (Ai mb m rg a D.length f k nr l) I fun _ u=> ?_
 have J:=u.h.h.h.h.x.e.t10
 refine go [rd 3 1 2 0 6 u]<|U7 call18 (TF mb i m rg a D.length f k nr l D ar yc rq n zz yy q mq bt ba cp fi tb wd qo lk S W dg nz S2 oz og L S3 hF hN hL hS hG hE hX hY hW hD om om om om om om om om om om om) J fun _ M=>nP 34 [iV 0,iV 0] M (fun ab _ N=> ?_)
 refine sA [iV 0,iV 0] N fun _ O=>g0<|dw (AE [0,1,2,3,4,5] (Tr.an 6 (Tr.an 7 (AE [8,9] (Tr.an 10 Tr.nil))))) O fun _ s=>go [rd 4 4 1 3 1 s,rd 4 5 0 0 2 s]<|nG (fun q_=> .slice (some ⟨q_,0,none⟩) 1 1) 34 [iV 0,iV 0] s (fun P _ y=>⟨kd [rd 0 4 2 3 1 y],?_⟩)
 have z:=y.j.t12
 refine AH ?_
 refine aA 20 2 (Ot 17) (Ot 19) (.agg #[iV 0,iV 0]) k nr l 1 1 (⟨P,0,none⟩) 16 underlying68 z (fl Fo [(0,0)]) rfl (Br z rfl) (Aw Cx _) (nr+1) ?_
 intro o p ac Q
 have A:sat g _ (Sl 34 2 o (nr+1) p (fl Fo (t++ [(0,0)]))::_):=sJ Q
 obtain⟨ad,ae⟩:=BH A
 refine⟨kd [],DE ?_⟩
 have T:=A.c.t12
 refine g0<|sG [(3,.slice o (nr+1) p)] [iV m,pV rg,.slice a D.length f,.slice o (nr+1) p] T fun _ B=>⟨kd [],?_⟩
 have U:=B.i.t12
 refine go [rd 5 0 3 0 2 B]<|sA [iV 0,iV 0] U fun af C=>g0 ?_
 have V:sat g _ (BU mb rg m D (nr+1)::_):=BC mb rg m D (nr+1) a f o p (t++ [(0,0)]) om om C.b.e.c.t12
 exact AD _ [rd 0 0 0 0 2 C] V.x.x.x.x.d.t10.i.e.e.e.e.e.t6
theorem Om{n:Nat}{l:Fr}{o:Oper}{x y:Operand}(a b c c1:Int)(ho:o.op= .binOp .neq 34 x y 34)(hx:fe n l x= .agg #[iV a,iV b])(hy:fe n l y= .agg #[iV c,iV c1])(h:a=c∧b=c1)(w:World):(execOp (fe n l) o).run prog w= .ok (.value (bF)) w:=by
 obtain⟨rfl,rfl⟩:=h
 simp[execOp,ho,hx,hy,go_sem]
theorem Qy(i c:Nat)(f:Int)(j k:Nat)(l:Option Addr)(a m:Nat)(o:Option Addr)(p q:Nat)(t:List Ky)(_:0≤ -24*(a:Int)+140737488355304):HT prog 136 [pV i,.agg #[iV 1,iV c,uV f],iV 0] [Cl i [iV k,pV j,.slice l a m,.slice o p q] 70,Sl 39 3 l a m (fl eO t)] (fun v K=> ∃u:Option Addr,∃z:Nat,v= .agg #[iV 0,iV a]∧K= [Cl i [iV k,pV j,.slice u (a+1) z,.slice o p q] 70,Sl 39 3 u (a+1) z (fl eO (t++ [(1,(c:Int),f)]))]):=by
 refine AC func136 ntmps136 fun g w0 R h0=>g0<|nP 39 [iV 1,iV c,uV f] h0 (fun Q _ I=> ?_)
 refine nP 34 [iV 0,iV 0] I (fun S _ C=> ?_)
 refine go [rd 1 4 2 2 1 C]<|nP 34 [iV 0,iV 0] C (fun T _ J=> ?_)
 refine sA [iV 0,iV a] J fun _ L=>g0<|dw (AE [0,1,2,3,4,5,6,7] Tr.nil) L fun _ A=>go [rd 2 0 0 0 2 A,rd 2 4 3 2 1 A,.s 2 7]<|lw (bF) (fun _=>Om (x:=Ot 15) (y:=Ot 21) 0 (a:Int) 0 (a:Int) kr kr kr ⟨rfl,rfl⟩ _)<|g0<|dw (AE [0,1,2,3,4,5] (Tr.an 6 (Tr.an 7 (AE [8,9] (Tr.an 10 Tr.nil))))) A fun _ B=>go [rd 4 4 3 2 1 B,rd 4 5 2 0 3 B]<|nG (fun q_=> .slice (some ⟨q_,0,none⟩) 1 1) 39 [iV 1,iV c,uV f] B (fun M _ D=>⟨kd [rd 0 4 4 2 1 D],?_⟩)
 have E:=D.e.t7
 refine AH ?_
 refine aA 32 3 (Ot 29) (Ot 31) (.agg #[iV 0,iV 0,uV 0]) l a m 1 1 (⟨M,0,none⟩) 24 underlying67 E (fl eO [(1,(c:Int),f)]) rfl (Br E rfl) (Aw B6 _) (a+1) ?_
 intro u z U N
 have F:sat g _ (Sl 39 3 u (a+1) z (fl eO (t++ [(1,(c:Int),f)]))::_):=sJ N
 obtain⟨V,W⟩:=BH F
 refine⟨kd [],DE ?_⟩
 have O:=F.e.t7
 refine g0<|sG [(2,.slice u (a+1) z)] [iV k,pV j,.slice u (a+1) z,.slice o p q] O fun _ G=>⟨kd [],?_⟩
 have P:=G.d.t7
 refine go [rd 5 0 3 0 2 G]<|sA [iV 0,iV a] P fun _ H=>g0 ?_
 exact en _ [rd 0 0 0 0 2 H] ⟨_,_,rfl,⟨u,z,rfl,rfl⟩,H.b.b.t7.f.b.b.t3⟩
theorem Qz(I:Nat)(m:Int)(f:List UInt8)(a s:Nat)(J:Option Addr)(d L:Nat)(O:Option Addr)(P Q:Nat)(S:List Ky)(u x y c:Nat)(T U:Int)(z:Nat)(t V W X Y:Int)(B C D E:Nat)(G:List AM)(o Z aa:Int)(e:Ts)(M:Wst)(ab:Int)(N:E3)(i:Nat)(l p q:Int)(ac:Wst)(F:Nat)(H:Int)(ad:Ts)(ae:E3)(af:By G=some (i,l))(ag:Cs M 1 m=0)(ah:CX M 1 m=(1,p,q))(ai:DY M 1 m=ac)(aj:Dv e (1,p,q) f ((i:Int),l)=0)(ak:FF e (1,p,q) f ((i:Int),l)=(1,(F:Int),H))(al:FE e (1,p,q) f ((i:Int),l)=ad)(am:Aa N (1,p,q)=none)(ao:Au N (1,p,q) (f, -1,0,0,2)=ae)(_:0≤(a:Int)-1)(_:0≤m)(_:0≤ -m+65535)(_:0≤(Ag f))(_:0≤ -(Ag f))(_:0≤t-(e.R.length:Int)+(((AT e.R 3).length:Nat):Int)-1)(_:0≤(e.R.length:Int)-(((AT e.R 3).length:Nat):Int))(_:0≤ -(e.R.length:Int)+1999)(_:0≤(((AJ 0 e.A 0).length:Nat):Int)-1)(_:0≤(((AJ 0 G 0).length:Nat):Int)-1)(_:0≤o)(_:0≤ -o+1099511627776)(_:0≤ -(N.length:Int)+1999)(_:0≤p)(_:0≤ -p+63)(_:0≤q-1)(_:0≤ -q+4294967295)(_:0≤ -(F:Int)+255)(_:0≤(c:Int)-(i:Int)-1)(_:0≤ -(c:Int)+256)(_:0≤l-1)(_:0≤H)(_:0≤ -H+4294967295)(_:0≤ -24*(d:Int)+140737488355304):HT prog 80 [pV I,.agg #[iV 8,iV 0,iV 1,iV m,iV 0,sV f]] [Cl I [iV a,pV s,.slice J d L,.slice O P Q] 70,Sl 39 3 J d L (fl eO S),AU s u x y c a T U z t V W X Y B C D E,B2 u c a G,Cy x c a 0 o 0 Z aa o,Bl y z 0,TW B 256 e,Wd C M,Cl D [iV t,pO] 191,Bj E ab N] (fun v K=> ∃aq:Option Addr,∃ar:Nat,v= .agg #[iV 0,iV d]∧K= [Cl I [iV a,pV s,.slice aq (d+1) ar,.slice O P Q] 70,AU s u x y c a T U z t V W X Y B C D E,RY u c a (Ap G) i l,Cy x c a 0 o 0 Z aa o,D2 y z F i l,TW B 256 ad,Wd C ac,Cl D [iV t,pO] 191,Bj E ab ae,Sl 39 3 aq (d+1) ar (fl eO (S++ [(1,(F:Int),H)]))]):=by
 refine AC func80 ntmps80 fun g w0 R h0=>g0<|nP 37 [iV 8,iV 0,iV 1,iV m,iV 0,sV f] h0 (fun bd _ av=> ?_)
 refine nP 34 [iV 0,iV 0] av (fun be _ aw=> ?_)
 refine g0<|dw (AE [0,1,2,3,4,5,6,7,8,9,10,11,12] (Tr.an 13 (AE [14,15] (Tr.an 16 (Tr.an 17 Tr.nil))))) aw fun _ ap=> ?_
 have ax:=ap.k.k.k.k.k.k.k.k.t13
 refine go [rd 1 4 2 1 1 ap,rd 1 6 1 1 1 ap,rd 1 8 1 2 1 ap,rd 1 10 1 3 1 ap,rd 1 12 1 5 1 ap]<|cG call137 (qR s u x y c a T U z t V W X Y B C D E m f G i l o Z aa e M ac p q F H ad ab N ae af ag ah ai aj ak al am ao om om om om om om om om om om om om om om om om om om om om om om om om) ax ?_
 rintro v K bf (⟨rfl,rfl⟩) ay
 have az:sat g _ (AU s u x y c a T U z t V W X Y B C D E::_):=ay
 refine⟨kd [],?_⟩
 have ba:=az.k.k.t13
 refine g0<|cG call136 (Qy I F H s a J d L O P Q S om) ba ?_
 rintro v K _ (⟨aq,ar,rfl,rfl⟩) bb
 have bc:=CW bb
 refine⟨kd [],?_⟩
 refine sB [iV 0,iV d] bc.j.t13 fun _ au=>⟨kd [],?_⟩
 refine g0 ?_
 exact en _ [rd 0 0 0 0 2 au] ⟨_,_,rfl,⟨aq,ar,rfl,rfl⟩,au.b.j.j.j.j.j.j.j.j.j.t13.l.j.j.j.j.j.j.j.j.j.j.t11⟩
theorem Wl(O:Nat)(i:Int)(c:List UInt8)(a B:Nat)(ai:Option Addr)(e aj:Nat)(S:Option Addr)(T U:Nat)(V:List Ky)(C D E b:Nat)(W X:Int)(F:Nat)(y Y Z aa ab:Int)(G H I J:Nat)(M:List AM)(q ac ad:Int)(f:Ts)(P:Wst)(ae:Int)(Q:E3)(o:Nat)(p s u:Int)(af:Wst)(L:Nat)(N:Int)(ag:Ts)(ah:E3)(ak:By M=some (o,p))(al:Cs P 1 i=0)(am:CX P 1 i=(1,s,u))(ao:DY P 1 i=af)(ap:Dv f (1,s,u) c ((o:Int),p)=0)(aq:FF f (1,s,u) c ((o:Int),p)=(1,(L:Int),N))(ar:FE f (1,s,u) c ((o:Int),p)=ag)(au:Aa Q (1,s,u)=none)(av:Au Q (1,s,u) (c, -1,0,0,2)=ah)(_:0≤i)(_:0≤(Ag c))(_:0≤ -(Ag c))(_:0≤(a:Int)-1)(_:0≤ -i+65535)(_:0≤y-(f.R.length:Int)+(((AT f.R 3).length:Nat):Int)-1)(_:0≤(f.R.length:Int)-(((AT f.R 3).length:Nat):Int))(_:0≤ -(f.R.length:Int)+1999)(_:0≤(((AJ 0 f.A 0).length:Nat):Int)-1)(_:0≤(((AJ 0 M 0).length:Nat):Int)-1)(_:0≤q)(_:0≤ -q+1099511627776)(_:0≤ -(Q.length:Int)+1999)(_:0≤s)(_:0≤ -s+63)(_:0≤u-1)(_:0≤ -u+4294967295)(_:0≤ -(L:Int)+255)(_:0≤(b:Int)-(o:Int)-1)(_:0≤ -(b:Int)+256)(_:0≤p-1)(_:0≤N)(_:0≤ -N+4294967295)(_:0≤ -24*(e:Int)+140737488355304):HT prog 18 [pV O,.agg #[iV 8,iV 0,iV 1,iV i,iV 0,sV c]] [Cl O [iV a,pV B,.slice ai e aj,.slice S T U] 70,Sl 39 3 ai e aj (fl eO V),AU B C D E b a W X F y Y Z aa ab G H I J,B2 C b a M,Cy D b a 0 q 0 ac ad q,Bl E F 0,TW G 256 f,Wd H P,Cl I [iV y,pO] 191,Bj J ae Q] (fun v K=> ∃aw:Option Addr,∃ax:Nat,v= .agg #[iV 0,iV e]∧K= [Cl O [iV a,pV B,.slice aw (e+1) ax,.slice S T U] 70,AU B C D E b a W X F y Y Z aa ab G H I J,RY C b a (Ap M) o p,Cy D b a 0 q 0 ac ad q,D2 E F L o p,TW G 256 ag,Wd H af,Cl I [iV y,pO] 191,Bj J ae ah,Sl 39 3 aw (e+1) ax (fl eO (V++ [(1,(L:Int),N)]))]):=by
 refine AC func18 ntmps18 fun g w0 R h0=>g0<|nP 37 [iV 8,iV 0,iV 1,iV i,iV 0,sV c] h0 (fun bm _ bf=> ?_)
 refine nP 34 [iV 0,iV 0] bf (fun bn _ ba=> ?_)
 refine go [rd 1 0 1 0 6 ba]<|AP call34 (Zn i c om om om om) ba fun _ bg=>g0<|dw (AE [0,1] (Tr.an 2 (AE [3,4,5,6,7,8,9,10,11,12] Tr.nil))) bg fun _ bb=>go [rd 3 1 1 0 1 bb]<|CJ call35 vD bb fun _ az=>⟨kd [],?_⟩
 refine go [rd 3 5 1 1 1 az,rd 3 9 2 0 1 az,.v 3 10 (oF (0≥(a:Int)))]<|dw (AE [0,1] (Tr.an 2 (AE [3,4,5,6,7,8,9,10,11,12,13] Tr.nil))) az fun _ bc=>go [rd 4 1 1 0 1 bc]<|CJ call36 vI bc fun _ bh=>⟨kd [],?_⟩
 refine g0<|dw (AE [1,2] (Tr.an 0 (Tr.an 3 (AE [4,5,6,7,8] Tr.nil)))) bh fun _ bd=>go [rd 6 2 1 0 1 bd]<|cG call37 Aq bd ?_
 rintro v K _ (⟨bo,rfl,rfl⟩) bi
 have ay:=B3 bi
 refine⟨kd [rd 0 2 2 0 1 ay],?_⟩
 refine AH ?_
 refine AX (d:=43) (.tuple #[.func (Fn.func 80) #[] #[],bT]) kr rfl (BN (t:=106) (z:=Value.nilFunc) (m:=Ot 40) (x:=Ot 42) (kv:=kI) (ve:=vF) kr underlying106 Dc kr 8 kr kr (j:=0) ay rfl (.func (Fn.func 80) #[] #[]) 80 (AG om (Bz rfl)) rfl) ?_
 refine⟨kd [],DE ?_⟩
 have bj:=ay.l.l.l.l.l.l.l.l.l.l.t14
 refine go [rd 8 2 2 0 6 ay]<|cP call80 (Qz O i c a B ai e aj S T U V C D E b W X F y Y Z aa ab G H I J M q ac ad f P ae Q o p s u af L N ag ah ak al am ao ap aq ar au av om om om om om om om om om om om om om om om om om om om om om om om om) bj ?_
 rintro v K bp (⟨aw,ax,rfl,rfl⟩) bk
 have bl:sat g _ (Cl O [iV a,pV B,.slice aw (e+1) ax,.slice S T U] 70::_):=bk
 refine sA [iV 0,iV e] bl.k.t14 fun _ be=>g0 ?_
 exact en _ [rd 0 0 0 0 2 be] ⟨_,_,rfl,⟨aw,ax,rfl,rfl⟩,be.j.j.j.j.j.j.j.j.j.j.t14.m.j.j.j.j.j.j.j.j.j.j.t11⟩
theorem Q2(mb rg ar yc rq n m:Nat)(zz yy:Int)(q:Nat)(mq bt ba cp fi:Int)(tb wd qo lk:Nat)(D:List Ky)(nr:Nat)(x:Int)(L:List UInt8)(A:List AM)(s:Nat)(gn ec at_ nx:Int)(S:Ts)(W W2:Wst)(oz og:Int)(dk:Nat)(dg:Int)(S2:Ts)(tz:Int)(E E2:E3)(hA:By A=some (s,gn))(hWE:Cs W 1 x=0)(hWO:CX W 1 x=(1,oz,og))(hWS:DY W 1 x=W2)(hTE:Dv S (1,oz,og) L ((s:Int),gn)=0)(hTD:FF S (1,oz,og) L ((s:Int),gn)=(1,(dk:Int),dg))(hTS:FE S (1,oz,og) L ((s:Int),gn)=S2)(hG:Aa E (1,oz,og)=none)(hGS:Au E (1,oz,og) (L, -1,0,0,2)=E2)(_:0≤ -(nr:Int)+99999)(_:0≤(m:Int)-1)(_:0≤x)(_:0≤ -x+65535)(_:0≤(Ag L))(_:0≤ -(Ag L))(_:0≤mq-(S.R.length:Int)+(((AT S.R 3).length:Nat):Int)-1)(_:0≤(S.R.length:Int)-(((AT S.R 3).length:Nat):Int))(_:0≤ -(S.R.length:Int)+1999)(_:0≤(((AJ 0 S.A 0).length:Nat):Int)-1)(_:0≤(((AJ 0 A 0).length:Nat):Int)-1)(_:0≤ec)(_:0≤ -ec+1099511627776)(_:0≤ -(E.length:Int)+1999)(_:0≤oz)(_:0≤ -oz+63)(_:0≤og-1)(_:0≤ -og+4294967295)(_:0≤ -(dk:Int)+255)(_:0≤ -(s:Int)+255)(_:0≤(n:Int)-(s:Int)-1)(_:0≤ -(n:Int)+256)(_:0≤gn-1)(_:0≤dg)(_:0≤ -dg+4294967295)(_:0≤ -(D.length:Int)+1999):HQ 7 [pV mb,.agg #[iV 8,iV 0,iV 1,iV x,iV 0,sV L]] [BU mb rg m D nr,AU rg ar yc rq n m zz yy q mq bt ba cp fi tb wd qo lk,B2 ar n m A,Cy yc n m 0 ec 0 at_ nx ec,Bl rq q 0,TW tb 256 S,Wd wd W,Cl qo [iV mq,pO] 191,Bj lk tz E] (.agg #[iV 0,iV (D.length:Int)]) [BU mb rg m (D++ [(1,(dk:Int),dg)]) (nr+1),AU rg ar yc rq n m zz yy q mq bt ba cp fi tb wd qo lk,RY ar n m (Ap A) s gn,Cy yc n m 0 ec 0 at_ nx ec,D2 rq q dk s gn,TW tb 256 S2,Wd wd W2,Cl qo [iV mq,pO] 191,Bj lk tz E2]:=by
 refine AC func7 ntmps7 fun g w0 R h0=> ?_
 obtain⟨p,t,e,f,u,ah,ai,J⟩:=BX h0
 have M:sat g _ (Cl mb [iV m,pV rg,.slice p D.length t,.slice e nr f] 70::_):=J
 refine g0<|nP 37 [iV 8,iV 0,iV 1,iV x,iV 0,sV L] M (fun N _ O=> ?_)
 refine nP 34 [iV 0,iV 0] O (fun P _ Q=> ?_)
 have T:=Q.b.t14
 refine g0<|AF call17 (Ai mb m rg p D.length t e nr f) T fun _ z=> ?_
 have U:=z.l.l.l.l.l.l.l.l.k.i.t14
 refine go [rd 3 1 2 0 6 z]<|cP call18 (Wl mb x L m rg p D.length t e nr f D ar yc rq n zz yy q mq bt ba cp fi tb wd qo lk A ec at_ nx S W tz E s gn oz og W2 dk dg S2 E2 hA hWE hWO hWS hTE hTD hTS hG hGS om om om om om om om om om om om om om om om om om om om om om om om om) U ?_
 rintro v K aj (⟨j,o,rfl,rfl⟩) V
 have X:sat g _ (Cl mb [iV m,pV rg,.slice j (D.length+1) o,.slice e nr f] 70::_):=V
 refine nP 34 [iV 0,iV 0] X (fun Y _ Z=> ?_)
 refine sA [iV 0,iV (D.length:Int)] Z fun _ aa=>g0<|dw (AE [0,1,2,3,4,5] (Tr.an 6 (Tr.an 7 (AE [8,9] (Tr.an 10 Tr.nil))))) aa fun _ y=>go [rd 4 4 1 3 1 y,rd 4 5 0 0 2 y]<|nG (fun q_=> .slice (some ⟨q_,0,none⟩) 1 1) 34 [iV 0,iV (D.length:Int)] y (fun B _ C=>⟨kd [rd 0 4 2 3 1 C],?_⟩)
 have F:=C.n.t16
 refine AH ?_
 refine aA 20 2 (Ot 17) (Ot 19) (.agg #[iV 0,iV 0]) e nr f 1 1 (⟨B,0,none⟩) 16 underlying68 F (fl Fo [(0,(D.length:Int))]) rfl (Br F rfl) (Aw Cx _) (nr+1) ?_
 intro a d ak ab
 have G:sat g _ (Sl 34 2 a (nr+1) d (fl Fo (u++ [(0,(D.length:Int))]))::_):=sJ ab
 obtain⟨al,am⟩:=BH G
 refine⟨kd [],DE ?_⟩
 have ac:=G.c.t16
 refine g0<|sG [(3,.slice a (nr+1) d)] [iV m,pV rg,.slice j (D.length+1) o,.slice a (nr+1) d] ac fun _ H=>⟨kd [],?_⟩
 have ad:=H.m.t16
 refine go [rd 5 0 3 0 2 H]<|sA [iV 0,iV (D.length:Int)] ad fun ae I=>g0 ?_
 have af:sat g ae [Cl mb [iV m,pV rg,.slice j ((D++ [(1,(dk:Int),dg)]).length) o,.slice a (nr+1) d] 70,Sl 39 3 j ((D++ [(1,(dk:Int),dg)]).length) o (fl eO (D++ [(1,(dk:Int),dg)])),Sl 34 2 a (nr+1) d (fl Fo (u++ [(0,(D.length:Int))])),Cl P [iV 0,iV (D.length:Int)] 34,Cl B [iV 0,iV (D.length:Int)] 34,Cl Y [iV 0,iV (D.length:Int)] 34,AU rg ar yc rq n m zz yy q mq bt ba cp fi tb wd qo lk,RY ar n m (Ap A) s gn,Cy yc n m 0 ec 0 at_ nx ec,D2 rq q dk s gn,TW tb 256 S2,Wd wd W2,Cl qo [iV mq,pO] 191,Bj lk tz E2,Cl N [iV 8,iV 0,iV 1,iV x,iV 0,sV L] 37,R]:=(by rw[List.length_append];exact I.b.m.c.t16)
 have ag:sat g _ (BU mb rg m (D++ [(1,(dk:Int),dg)]) (nr+1)::_):=BC mb rg m (D++ [(1,(dk:Int),dg)]) (nr+1) j o a d (u++ [(0,(D.length:Int))]) om (by rw[List.length_append];simp only[List.length_cons,List.length_nil];omega) af
 exact AD _ [rd 0 0 0 0 2 I] ag.k.k.k.k.k.k.k.k.h.t14.m.i.i.i.i.i.i.i.i.i.t10
theorem L4(d f i j k l:Nat)(m o:Int)(p:Nat)(q s t u x:Int)(y c z A:Nat)(e:Wst):HT prog 19 [pV d] [AU d i j k l f m o p q s t u x y c z A,Wd c e] (fun v K=> ∃B:Nat,v=pV B∧K= [AU d i j k l f m o p q s t u x y c z A,Wd c e,Wd B e]):=by
 refine AC func19 ntmps19 fun g w0 R h0=>g0<|AF call23 (Ae d i j k l f m o p q s t u x y c z A) h0 fun _ C=> ?_
 have D:=C.a.t3
 refine go [rd 3 3 0 14 1 C]<|cP call39 (KV c e) D ?_
 rintro v K _ (⟨B,rfl,rfl⟩) E
 have F:=CW E
 refine g0 ?_
 exact en _ [] ⟨_,_,rfl,⟨B,rfl,rfl⟩,F.b.t4⟩
theorem aI(mb rg ar yc rq n m:Nat)(zz yy:Int)(q:Nat)(mq bt ba cp fi:Int)(tb wd qo lk:Nat)(D:List Ky)(nr:Nat)(W:Wst):HT prog 11 [pV mb] [BU mb rg m D nr,AU rg ar yc rq n m zz yy q mq bt ba cp fi tb wd qo lk,Wd wd W] (fun v K=> ∃p:Option Addr,∃c:Nat,v= .slice p W.T.length c∧K= [BU mb rg m D nr,AU rg ar yc rq n m zz yy q mq bt ba cp fi tb wd qo lk,Wd wd W,Sl 50 6 p W.T.length c (fl DM W.T)]):=by
 refine AC func11 ntmps11 fun g w0 R h0=> ?_
 obtain⟨i,j,k,l,s,t,u,y⟩:=BX h0
 have z:sat g _ (Cl mb [iV m,pV rg,.slice i D.length j,.slice k nr l] 70::_):=y
 refine g0<|AF call17 (Ai mb m rg i D.length j k nr l) z fun _ o=> ?_
 have A:=o.d.d.t6
 refine go [rd 3 3 0 1 1 o]<|cP call19 (L4 rg m ar yc rq n zz yy q mq bt ba cp fi tb wd qo lk W) A ?_
 rintro v K _ (⟨B,rfl,rfl⟩) C
 refine cP call20 (Y0 B W) ((MG C).b.t7) ?_
 rintro v K _ (⟨E,rfl,rfl⟩) F
 refine cP call21 (Yy E W.T) ((CW F).a.t8) ?_
 rintro v K M (⟨G,H,rfl,rfl⟩) I
 have J:=CW I
 refine g0 ?_
 have L:sat g _ (BU mb rg m D nr::_):=BC mb rg m D nr i j k l s t u J.x.x.x.t9
 exact en _ [] ⟨_,_,rfl,⟨G,H,rfl,rfl⟩,L.e.e.b.t7.f.d.d.d.d.t5⟩
theorem lK(n m:Nat)(zz yy:Int)(q:Nat)(mq bt ba cp fi:Int)(_:0≤(n:Int)-1)(_:0≤ -(n:Int)+256)(_:0≤(m:Int)-1)(_:0≤ -(m:Int)+4)(_:0≤zz-1)(_:0≤ -zz+64)(_:0≤yy-1)(_:0≤ -yy+64)(_:0≤(q:Int)-1)(_:0≤ -(q:Int)+64)(_:0≤mq-1)(_:0≤ -mq+256)(_:0≤bt-1)(_:0≤ -bt+64)(_:0≤ba-1)(_:0≤cp-ba)(_:0≤ -cp+1048576)(_:0≤fi-1)(_:0≤ -fi+4294967295):HT prog 6 [.agg #[iV n,iV m,iV zz,iV yy,iV q,iV mq,iV bt,iV ba,iV cp,uV fi]] [] (fun v K=> ∃mb:Nat,∃rg:Nat,∃ar:Nat,∃yc:Nat,∃rq:Nat,∃tb:Nat,∃wd:Nat,∃qo:Nat,∃lk:Nat,v= .tuple #[pV mb,iV 0]∧K= [BU mb rg m [] 0,AU rg ar yc rq n m zz yy q mq bt ba cp fi tb wd qo lk,B2 ar n m (List.replicate n (0,fi)),Cy yc n m 0 0 0 0 (n:Int) 0,Bl rq q 0,TW tb 256 (⟨List.replicate 256 (0,fi),[],[]⟩),Wd wd (Fz fi),Cl qo [iV mq,pO] 191,Bj lk 0 []]):=by
 refine AC func6 ntmps6 fun g w0 R h0=>g0<|nP 26 [iV n,iV m,iV zz,iV yy,iV q,iV mq,iV bt,iV ba,iV cp,uV fi] h0 (fun z _ d=> ?_)
 refine go [rd 1 0 0 0 10 d]<|cP call16 (wA n m zz yy q mq bt ba cp fi om om om om om om om om om om om om om om om om om om om) d ?_
 rintro v K A (⟨a,e,f,i,j,k,l,o,rfl,rfl⟩) s
 have p:sat g _ (AU a e f i n m zz yy q mq bt ba cp fi j k l o::_):=s
 refine go [rd 4 1 8 1 1 p]<|nP 70 [iV m,pV a,.slice none 0 0,.slice none 0 0] p (fun c B t=> ?_)
 refine g0 ?_
 have u:sat g _ (Sl 34 2 none 0 0 (fl Fo [])::_):=CP 34 2 t
 have x:sat g _ (Sl 39 3 none 0 0 (fl eO [])::_):=CP 39 3 u
 have y:sat g _ (BU c a m [] 0::_):=BC c a m [] 0 none 0 none 0 [] om dc x.b.t13
 exact en _ [] ⟨_,_,rfl,⟨c,a,e,f,i,j,k,l,o,rfl,rfl⟩,y.J.t10⟩
section
structure Gn (fi:Int) (gs:Nat):Prop where
 lo:1≤gs
 hi:gs≤3
 fi:fi+(gs:Int)=4294967296
theorem K9: ∀(A:List AM) (k j:Nat) (g:Int),A[j]? =some (0,g)→(∀a x,a<j→A[a]? =some x→x.1≠0)→ ∃T,AJ 0 A k=(k+j,g)::T
 | [],k,j,g,h,_=>by simp at h
 |s::A,k,0,g,h,_=>by
  rw[List.getElem?_cons_zero] at h
  obtain rfl:=Option.some.inj h
  exact⟨AJ 0 A (k+1),by simp[AJ]⟩
 |s::A,k,j+1,g,h,hn=>by
  have h0:s.1≠0:=hn 0 s om rfl
  obtain⟨T,hT⟩:=K9 A (k+1) j g (by simpa using h) (fun a x ha hx=>hn (a+1) x om (by simpa using hx))
  refine⟨T,?_⟩
  simp only[AJ,if_neg h0]
  rw[hT,show k+1+j=k+(j+1) from by omega]
section
variable {N : Nat} {fi : Int} {gs k : Nat}
end
end
section
theorem Q3:Ac []= []:=by
 have h: ∀e,e∉Ac []:=fun e he=>by
  obtain⟨k,_,h⟩:=mem_allE.1 he
  cases h
 exact List.eq_nil_iff_forall_not_mem.2 h
theorem HD(v:Int):Ch [] v= []:=by unfold Ch;rw[Q3];rfl
theorem tag_x:Ag [120]=0:=by kernel_rfl
section
variable {fi : Int} {gs k : Nat} {h : Int × Int}
end
end
section
section
variable {fi : Int} {gs k : Nat} {x : Int}
end
end
section
section
variable {α β : Type} [DecidableEq α] {E : List (α × β)} {k : α} {u v : β}
end
section
variable {β : Type} {f : Nat → β} {fi : Int} {gs k : Nat}
end
section
variable {fi : Int} {gs k : Nat}
end
end
theorem Wm(b:Nat):HQ 9 [iV 7,iV b,iV 0,iV 0] [] (.agg #[iV 7,iV b,iV 0,iV 0,iV 0,sV []]) []:=by
 refine AC func9 ntmps9 fun g w0 R h0=>g0<|nP 37 [iV 0,iV 0,iV 0,iV 0,iV 0,sV []] h0 (fun _ _ d=> ?_)
 refine g0<|sA [iV 7,iV b,iV 0,iV 0,iV 0,sV []] d fun _ c=>g0 ?_
 exact AD (.agg #[iV 7,iV b,iV 0,iV 0,iV 0,sV []]) [rd 0 0 0 0 6 c] c.a.t1
theorem Ds(mb rg ar yc rq n m:Nat)(zz yy:Int)(q:Nat)(mq bt ba cp fi:Int)(tb wd qo lk:Nat)(D:List Ky)(nr:Nat)(A:List AM)(s:Nat)(gn ec bg:Int)(p:Nat)(_:0≤(m:Int)-1)(_:0≤ -(m:Int)+4)(_:0≤ -(nr:Int)-(m:Int)+100000)(_:0≤2*(n:Int)-(p:Int)+3)(_:0≤(n:Int)-(s:Int)-1):HQ 10 [pV mb,.agg #[iV n,iV m,iV zz,iV yy,iV q,iV mq,iV bt,iV ba,iV cp,uV fi]] [BU mb rg m D nr,AU rg ar yc rq n m zz yy q mq bt ba cp fi tb wd qo lk,C8 yc n m ec bg p 0,Cw ar n m A s gn p] (.tuple #[]) [BU mb rg m D (nr+m),AU rg ar yc rq n m zz yy q mq bt ba cp fi tb wd qo lk,C8 yc n m ec bg p m,Cw ar n m A s gn p]:=by
 refine AC func10 ntmps10 fun g w0 R h0=>g0<|nP 26 [iV n,iV m,iV zz,iV yy,iV q,iV mq,iV bt,iV ba,iV cp,uV fi] h0 (fun b _ j=> ?_)
 refine g0 ?_
 refine Jc (fun mz_ a w=> ∃i:Nat,∃lr:Fr,mz_=m-i∧(i≤m)∧a=mk 15 (([(0,pV mb),(3,pV b),(4,iV i)]:Fr)++lr)∧sat g w [Cl b [iV n,iV m,iV zz,iV yy,iV q,iV mq,iV bt,iV ba,iV cp,uV fi] 26,BU mb rg m D (nr+i),AU rg ar yc rq n m zz yy q mq bt ba cp fi tb wd qo lk,C8 yc n m ec bg p i,Cw ar n m A s gn p,R]) (m-0) ⟨0,_,rfl,(Nat.zero_le _),(Ck [.k 0 (pV mb),.k 3 (pV b),.o 4 (oJ .i64 0 (0:Int))]),j⟩ ?_
 rintro x y z ⟨i,B,rfl,hi_,rfl,c⟩
 refine ga<|go [rd 2 2 0 1 1 c,.s 2 3] ?_
 by_cases f:(i:Int)<(m:Int)
 ·
  refine go [.v 2 3 (oT _ f)]<|AP call9 (Wm i) c fun _ l=>IL call7 (jN mb rg ar yc rq n m zz yy q mq bt ba cp fi tb wd qo lk D (nr+i) A s gn ec bg p i om om om om om) l.d.d.d.d.t6 fun _ t=>go [.v 3 1 (CD ((i:Int)+1))] ?_
  refine ET ?_
  have u:=t.d.t6
  change ∃n',n'<_∧_
  refine⟨(m-(i+1)),by omega,(i+1),_,rfl,om,(Ck [.k 0 (pV mb),.k 3 (pV b),.o 4 (oJ .i64 ((i:Int)+1) (((i+1):Nat):Int))]),u⟩
 refine go [.v 2 3 (oF _ f)]<|up<|g0 ?_
 obtain rfl:i=m:=by omega
 exact AD _ [] c.d.d.d.d.t6.e.d.d.d.d.t5
theorem Wn(mb rg ar yc rq n m:Nat)(zz yy:Int)(q:Nat)(mq bt ba cp fi:Int)(tb wd qo lk:Nat)(D:List Ky)(nr:Nat)(A:List AM)(s:Nat)(gn ec bg f:Int)(k:Nat)(_:0≤ -(nr:Int)+99999)(_:0≤(k:Int)-1)(_:0≤ -(k:Int)+10000)(_:0≤(n:Int)-(s:Int)-1)(_:0≤ec)(_:0≤ -ec+1000000)(_:0≤(m:Int)-1)(_:0≤(q:Int)-1)(_:0≤gn-1):HQ 7 [pV mb,.agg #[iV 13,iV 0,iV k,iV 0,iV 0,sV []]] [BU mb rg m D nr,AU rg ar yc rq n m zz yy q mq bt ba cp fi tb wd qo lk,C8 yc n m ec bg 0 m,Cw ar n m A s gn 0,Bl rq q f] (.agg #[iV 0,iV 0]) [BU mb rg m D (nr+1),AU rg ar yc rq n m zz yy q mq bt ba cp fi tb wd qo lk,C8 yc n m ec bg 1 0,Cw ar n m A s gn 1,Bl rq q f]:=by
 have hG:RZ n m 0 m:=⟨fun _=>rfl,fun h=>by omega,by omega⟩
 have h:=Qu mb rg ar yc rq n m zz yy q mq bt ba cp fi tb wd qo lk D nr A s gn ec bg 0 m f k hG om om om om om om om om om
 obtain⟨i_,rfl⟩: ∃i_,k=i_+1:=⟨k-1,by omega⟩
 rw[QV om] at h
 exact h
theorem DO(mb rg ar yc rq n m:Nat)(zz yy:Int)(q:Nat)(mq bt ba cp fi:Int)(tb wd qo lk:Nat)(D:List Ky)(nr:Nat)(A:List AM)(s:Nat)(gn ec bg:Int)(p:Nat)(f:Int)(k:Nat)(_:0≤ -(nr:Int)+99999)(_:0≤(k:Int)-1)(_:0≤ -(k:Int)+10000)(_:0≤(n:Int)-(s:Int)-1)(_:0≤ec)(_:0≤ -ec+1000000)(_:0≤(m:Int)-1)(_:0≤(q:Int)-1)(_:0≤gn-1)(_:0≤(p:Int)-1)(_:0≤2*(n:Int)-(p:Int)+3)(_:0≤(p:Int)+(k:Int)-2*(n:Int)-3):HQ 7 [pV mb,.agg #[iV 13,iV 0,iV k,iV 0,iV 0,sV []]] [BU mb rg m D nr,AU rg ar yc rq n m zz yy q mq bt ba cp fi tb wd qo lk,C8 yc n m ec bg p m,Cw ar n m A s gn p,Bl rq q f] (.agg #[iV 0,iV 0]) [BU mb rg m D (nr+1),AU rg ar yc rq n m zz yy q mq bt ba cp fi tb wd qo lk,C8 yc n m ec bg (n*2+3) 0,Cw ar n m A s gn (n*2+3),Bl rq q f]:=by
 have hG:RZ n m p m:=⟨fun h=>by omega,fun _=> .inl rfl,by omega⟩
 have h:=Qu mb rg ar yc rq n m zz yy q mq bt ba cp fi tb wd qo lk D nr A s gn ec bg p m f k hG om om om om om om om om om
 obtain⟨i_,rfl⟩: ∃i_,k=i_+1:=⟨k-1,by omega⟩
 rw[Ub om om om,show min (p+(i_+1)) (3+2*n)=n*2+3 from by omega] at h
 exact h
abbrev qY:List UInt8:= [109,97,105,110]
def xW:List AM:=List.replicate 4 (0,1)
def w4S:Ts:=⟨List.replicate 256 (0,1),[],[]⟩
def wE:Wst:=Fz 1
def qZ:Ts:=FE w4S (1,0,1) qY (0,1)
def w4V:Wst:=DY wE 1 5
def wF:Ts:=Dw qZ (1,0,1)
def zH:Ts:=Cc wF 1 ⟨(1,0,1),2,1,0,0,qY⟩
theorem rA:Ag qY=0:=by kernel_rfl
theorem zI:By xW=some (0,1):=by kernel_rfl
theorem wG:(AJ 0 xW 0).length=4:=by kernel_rfl
theorem wH:Cs wE 1 5=0:=by kernel_rfl
theorem wI:CX wE 1 5=(1,((0:Nat):Int),1):=by kernel_rfl
theorem wJ:Dv w4S (1,0,1) qY (((0:Nat):Int),1)=0:=by kernel_rfl
theorem wK:FF w4S (1,0,1) qY (((0:Nat):Int),1)=(1,((0:Nat):Int),1):=by kernel_rfl
theorem wL:w4S.R.length=0:=rfl
theorem wM:(AT w4S.R 3).length=0:=rfl
theorem wN:1≤(AJ 0 w4S.A 0).length:=Nat.le_of_ble_eq_true kr
theorem wO:Ba qZ (1,((0:Nat):Int),1)=0:=by kernel_rfl
theorem wP:(CR qZ (1,((0:Nat):Int),1)).num=1:=by kernel_rfl
theorem zJ:EC qZ (1,((0:Nat):Int),1)=true:=by kernel_rfl
theorem zK:AZ wF 1=⟨(1,0,1),1,0,0,0,qY⟩:=by kernel_rfl
theorem zL:nE wF 1=0:=by kernel_rfl
theorem zM:CS wF 1 ⟨(1,0,1),2,1,0,0,qY⟩=0:=by kernel_rfl
theorem zN:w4V.now=0:=by kernel_rfl
theorem zO:Ba zH (1,((0:Nat):Int),1)=7:=by kernel_rfl
theorem IJ{n:Nat}{l:Fr}{o:Oper}{x y:Operand}(a b c c1:Int)(ho:o.op= .binOp .eql 34 x y 34)(hx:fe n l x= .agg #[iV a,iV b])(hy:fe n l y= .agg #[iV c,iV c1])(h:a=c∧b=c1)(w:World):(execOp (fe n l) o).run prog w= .ok (.value (bT)) w:=by
 obtain⟨rfl,rfl⟩:=h
 simp[execOp,ho,hx,hy,go_sem]
theorem On{n:Nat}{l:Fr}{o:Oper}{x y:Operand}(a b c c1:Int)(ho:o.op= .binOp .neq 34 x y 34)(hx:fe n l x= .agg #[iV a,iV b])(hy:fe n l y= .agg #[iV c,iV c1])(h:a=c∧b=c1)(w:World):(execOp (fe n l) o).run prog w= .ok (.value (bF)) w:=by
 obtain⟨rfl,rfl⟩:=h
 simp[execOp,ho,hx,hy,go_sem]
theorem TG(f c:Nat)(a:Int)(i j k l m:Nat)(o p:Int)(q:Nat)(s t u x y:Int)(d z A B:Nat)(e:Ts)(D:Int)(E:Ba e (1,(c:Int),a)=0)(F:(CR e (1,(c:Int),a)).num=D)(_:0≤ -(c:Int)+255)(_:0≤a-1)(_:0≤ -a+4294967295):HQ 139 [pV f,.agg #[iV 1,iV c,uV a]] [AU f j k l m i o p q s t u x y d z A B,TW d 256 e] (iV 0) [AU f j k l m i o p q s t u x y d z A B,TW d 256 e]:=by
 refine AC func139 ntmps139 fun g w0 R h0=>g0<|nP 39 [iV 1,iV c,uV a] h0 (fun _ _ G=> ?_)
 have H:=G.b.b.t4
 refine go [rd 1 1 0 0 3 G]<|DF call207 (JO f c a j k l m i o p q s t u x y d z A B e D E F om om om) H fun _ I=>g0 ?_
 exact AD _ [] I.C.t3
theorem TH(t a k l:Nat)(m:Option Addr)(i o:Nat)(O:Option Addr)(P Q:Nat)(u:List Ky)(x y z A:Nat)(B C:Int)(D:Nat)(E F G H I:Int)(p J L M:Nat)(q:Ts)(f:Nat)(d S:Int)(T:Ba q (1,(f:Int),d)=0)(U:(CR q (1,(f:Int),d)).num=S)(N:u[a]? =some (1,(f:Int),d))(_:0≤(i:Int)-(a:Int)-1)(_:0≤ -(f:Int)+255)(_:0≤d-1)(_:0≤ -d+4294967295):HQ 82 [pV t,.agg #[iV 10,iV 0,iV a,iV 0,iV 0,sV []]] [Cl t [iV k,pV l,.slice m i o,.slice O P Q] 70,Sl 39 3 m i o (fl eO u),AU l x y z A k B C D E F G H I p J L M,TW p 256 q] (.agg #[iV 0,iV 0]) [Cl t [iV k,pV l,.slice m i o,.slice O P Q] 70,Sl 39 3 m i o (fl eO u),AU l x y z A k B C D E F G H I p J L M,TW p 256 q]:=by
 refine AC func82 ntmps82 fun g w0 R h0=>g0<|nP 37 [iV 10,iV 0,iV a,iV 0,iV 0,sV []] h0 (fun _ _ aa=> ?_)
 refine nP 34 [iV 0,iV 0] aa (fun _ _ ab=> ?_)
 refine g0<|dw (AE [0,1,2,3,4,5,6,7,8,9,10,11] (Tr.an 12 (Tr.fl 13 (Tr.an 14 Tr.nil)))) ab fun _ V=> ?_
 obtain⟨Y,X⟩:=Av (j:=3) V rfl om
 refine go [rd 1 3 2 1 1 V,rd 1 7 2 2 1 V,rd 1 9 1 2 1 V,.s 1 10]<|lw (.pointer (some ⟨Y,a*3,none⟩)) (fun _=>Ft (Ot 12) (Ot 14) m Y 0 (a:Int) i o underlying67 3 a X (a*3)) ?_
 have W:=V.c.t7
 have af:=Ca B6 dc W
 have ac:=W.e.e.t7
 refine go [.r 1 11 Y (a*3) [iV 1,iV f,uV d] ⟨CM 0 W rfl X B6 0 (iV 1) N (a*3),CM 0 W rfl X B6 1 (iV f) N (a*3+1),CM 0 W rfl X B6 2 (uV d) N (a*3+2),trivial⟩]<|FN call139 (TG l f d k x y z A B C D E F G H I p J L M q S T U om om om) ac fun _ ad=>⟨kd [],?_⟩
 have ae:=ad.c.t7
 refine g0<|sB [iV 0,iV 0] ae fun _ Z=>⟨kd [],?_⟩
 refine g0 ?_
 exact AD _ [rd 0 0 0 0 2 Z] Z.b.b.c.e.t7.f.d.d.d.d.t5
theorem Wo(u a b k:Nat)(l:Option Addr)(c o:Nat)(A:Option Addr)(B C:Nat)(y:List Ky)(D E F G:Nat)(H I:Int)(J:Nat)(L M N O P:Int)(p Q S T:Nat)(q:Ts)(s:Nat)(i U:Int)(V:Ba q (1,(s:Int),i)=0)(W:(CR q (1,(s:Int),i)).num=U)(X:y[a]? =some (1,(s:Int),i))(_:0≤ -(a:Int)+1999)(_:0≤(b:Int)-1)(_:0≤(c:Int)-(a:Int)-1)(_:0≤ -(s:Int)+255)(_:0≤i-1)(_:0≤ -i+4294967295):HQ 18 [pV u,.agg #[iV 10,iV 0,iV a,iV 0,iV 0,sV []]] [Cl u [iV b,pV k,.slice l c o,.slice A B C] 70,Sl 39 3 l c o (fl eO y),AU k D E F G b H I J L M N O P p Q S T,TW p 256 q] (.agg #[iV 0,iV 0]) [Cl u [iV b,pV k,.slice l c o,.slice A B C] 70,Sl 39 3 l c o (fl eO y),AU k D E F G b H I J L M N O P p Q S T,TW p 256 q]:=by
 refine AC func18 ntmps18 fun g w0 R h0=>g0<|nP 37 [iV 10,iV 0,iV a,iV 0,iV 0,sV []] h0 (fun _ _ ag=> ?_)
 refine nP 34 [iV 0,iV 0] ag (fun _ _ ab=> ?_)
 refine go [rd 1 0 1 0 6 ab]<|AP call34 (Uh a om om) ab fun _ ah=>g0<|dw (AE [0,1] (Tr.an 2 (AE [3,4,5,6,7,8,9,10,11,12] Tr.nil))) ah fun _ ac=>go [rd 3 1 1 0 1 ac]<|CJ call35 Zo ac fun _ Z=>⟨kd [],?_⟩
 refine go [rd 3 5 1 1 1 Z,rd 3 9 2 0 1 Z,.v 3 10 (oF (0≥(b:Int)))]<|dw (AE [0,1] (Tr.an 2 (AE [3,4,5,6,7,8,9,10,11,12,13] Tr.nil))) Z fun _ ad=>go [rd 4 1 1 0 1 ad]<|CJ call36 Zp ad fun _ aa=>⟨kd [],?_⟩
 refine go [rd 4 5 1 2 1 aa,rd 4 9 2 2 1 aa,.v 4 11 (oF ((a:Int)≥(c:Int)))]<|dw (AE [1,2] (Tr.an 0 (Tr.an 3 (AE [4,5,6,7,8] Tr.nil)))) aa fun _ ae=>go [rd 6 2 1 0 1 ae]<|cG call37 Aq ae ?_
 rintro v K _ (⟨al,rfl,rfl⟩) ai
 have Y:=B3 ai
 refine⟨kd [rd 0 2 2 0 1 Y],?_⟩
 refine AH ?_
 refine AX (d:=43) (.tuple #[.func (Fn.func 82) #[] #[],bT]) kr rfl (BN (t:=106) (z:=Value.nilFunc) (m:=Ot 40) (x:=Ot 42) (kv:=kI) (ve:=vF) kr underlying106 Dc kr 10 kr kr (j:=0) Y rfl (.func (Fn.func 82) #[] #[]) 82 (AG om (AG om (AG om (Bz rfl)))) rfl) ?_
 refine⟨kd [],DE ?_⟩
 have aj:=Y.f.f.f.f.t8
 refine go [rd 8 2 2 0 6 Y]<|IL call82 (TH u a b k l c o A B C y D E F G H I J L M N O P p Q S T q s i U V W X om om om om) aj fun _ ak=>sA [iV 0,iV 0] ak.e.t8 fun _ af=>g0 ?_
 exact AD _ [rd 0 0 0 0 2 af] af.d.d.d.d.t8.x.d.d.d.d.t5
theorem aJ(mb rg ar yc rq n m:Nat)(zz yy:Int)(q:Nat)(mq bt ba cp fi:Int)(tb wd qo lk:Nat)(D:List Ky)(nr:Nat)(S:Ts)(dk:Nat)(dg nz:Int)(i:Nat)(hF:Ba S (1,(dk:Int),dg)=0)(hN:(CR S (1,(dk:Int),dg)).num=nz)(hD:D[i]? =some (1,(dk:Int),dg))(_:0≤ -(nr:Int)+99999)(_:0≤dg-1)(_:0≤ -dg+4294967295)(_:0≤ -(dk:Int)+255)(_:0≤(D.length:Int)-(i:Int)-1)(_:0≤(m:Int)-1):HQ 7 [pV mb,.agg #[iV 10,iV 0,iV i,iV 0,iV 0,sV []]] [BU mb rg m D nr,AU rg ar yc rq n m zz yy q mq bt ba cp fi tb wd qo lk,TW tb 256 S] (.agg #[iV 0,iV 0]) [BU mb rg m D (nr+1),AU rg ar yc rq n m zz yy q mq bt ba cp fi tb wd qo lk,TW tb 256 S]:=by
 refine AC func7 ntmps7 fun g w0 R h0=> ?_
 obtain⟨a,d,j,k,s,U,V,C⟩:=BX h0
 have E:sat g _ (Cl mb [iV m,pV rg,.slice a D.length d,.slice j nr k] 70::_):=C
 refine g0<|nP 37 [iV 10,iV 0,iV i,iV 0,iV 0,sV []] E (fun W _ F=> ?_)
 refine nP 34 [iV 0,iV 0] F (fun X _ G=> ?_)
 have H:=G.b.t8
 refine g0<|AF call17 (Ai mb m rg a D.length d j nr k) H fun _ t=> ?_
 have I:=t.f.f.e.c.t8
 refine go [rd 3 1 2 0 6 t]<|IL call18 (Wo mb i m rg a D.length d j nr k D ar yc rq n zz yy q mq bt ba cp fi tb wd qo lk S dk dg nz hF hN hD om om om om om om) I fun _ J=>nP 34 [iV 0,iV 0] J (fun Y _ L=> ?_)
 refine sA [iV 0,iV 0] L fun _ M=>g0<|dw (AE [0,1,2,3,4,5] (Tr.an 6 (Tr.an 7 (AE [8,9] (Tr.an 10 Tr.nil))))) M fun _ p=>go [rd 4 4 1 3 1 p,rd 4 5 0 0 2 p]<|nG (fun q_=> .slice (some ⟨q_,0,none⟩) 1 1) 34 [iV 0,iV 0] p (fun N _ u=>⟨kd [rd 0 4 2 3 1 u],?_⟩)
 have y:=u.h.t10
 refine AH ?_
 refine aA 20 2 (Ot 17) (Ot 19) (.agg #[iV 0,iV 0]) j nr k 1 1 (⟨N,0,none⟩) 16 underlying68 y (fl Fo [(0,0)]) rfl (Br y rfl) (Aw Cx _) (nr+1) ?_
 intro l o Z O
 have z:sat g _ (Sl 34 2 l (nr+1) o (fl Fo (s++ [(0,0)]))::_):=sJ O
 obtain⟨aa,ab⟩:=BH z
 refine⟨kd [],DE ?_⟩
 have P:=z.c.t10
 refine g0<|sG [(3,.slice l (nr+1) o)] [iV m,pV rg,.slice a D.length d,.slice l (nr+1) o] P fun _ A=>⟨kd [],?_⟩
 have Q:=A.x.t10
 refine go [rd 5 0 3 0 2 A]<|sA [iV 0,iV 0] Q fun ac B=>g0 ?_
 have T:sat g _ (BU mb rg m D (nr+1)::_):=BC mb rg m D (nr+1) a d l o (s++ [(0,0)]) om om B.b.e.c.t10
 exact AD _ [rd 0 0 0 0 2 B] T.e.e.b.t8.x.c.c.c.t4
theorem jO:HT prog 6 [.agg #[iV 4,iV 1,iV 1,iV 1,iV 1,iV 2,iV 1,iV 1,iV 2,uV 1]] [] (fun v K=> ∃mb:Nat,∃rg:Nat,∃ar:Nat,∃yc:Nat,∃rq:Nat,∃tb:Nat,∃wd:Nat,∃qo:Nat,∃lk:Nat,v=.tuple #[pV mb,iV 0]∧K= [BU mb rg 1 [] 0,AU rg ar yc rq 4 1 1 1 1 2 1 1 2 1 tb wd qo lk,B2 ar 4 1 xW,Cy yc 4 1 0 0 0 0 4 0,Bl rq 1 0,TW tb 256 w4S,Wd wd wE,Cl qo [iV 2,pO] 191,Bj lk 0 []]):=lK 4 1 1 1 1 2 1 1 2 1 om om om om om om om om om om om om om om om om om om om
theorem HE:HQ 12 [] [] (bT) []:=by
 refine AC func12 ntmps12 fun g w0 R h0=> ?_
 have ht_:Ag [109,97,105,110]=0:=rA;have hA_:=wG;have hS_:=wL;have a:=wM;have hr_:=wN;have hn_:([]:List Ky).length=0:=rfl;have j:([]:E3).length=0:=rfl;have k:(([]:List Ky)++ [(1,(0:Int),1)]).length=1:=rfl
 refine g0<|cP call6 jO h0 ?_
 rintro v K M (⟨l,m,o,p,q,t,u,z,A,rfl,rfl⟩) B
 have C:sat g _ (BU l m 1 [] 0::_):=B
 refine g0<|cP call7 (Q2 l m o p q 4 1 1 1 1 2 1 1 2 1 t u z A [] 0 5 [109,97,105,110] xW 0 1 0 0 4 w4S wE w4V 0 1 0 1 qZ 0 [] ([((1,0,1),([109,97,105,110], -1,0,0,2))]) zI wH wI rfl wJ wK rfl rfl rfl om om om om om om om om om om om om om om om om om om om om om om om om om om) C ?_
 rintro v K N (⟨rfl,rfl⟩) D
 have E:sat g _ (BU l m 1 ([]++ [(1,(0:Int),1)]) 1::_):=D
 refine go [.s 2 7]<|AS (bF) (On (x:=Ot 13) (y:=Ot 14) 0 (([].length:Nat):Int) 0 0 kr kr kr ⟨rfl,om⟩ _) ?_
 have F:=E.e.b.b.t10
 refine g0<|IM call7 (aJ l m o p q 4 1 1 1 1 2 1 1 2 1 t u z A ([]++ [(1,(0:Int),1)]) 1 qZ 0 1 1 0 wO wP rfl om om om om om om) F fun _ G=>go [.s 4 4]<|AS (bT) (IJ (x:=Ot 19) (y:=Ot 20) 0 0 0 0 kr kr kr ⟨rfl,rfl⟩ _) ?_
 have H:=G.f.c.f.d.d.t10
 refine g0<|LK call7 (Qv l m o p q 4 1 1 1 1 2 1 1 2 1 t u z A ([]++ [(1,(0:Int),1)]) 2 [109,97,105,110] qZ wF zH w4V 0 1 1 0 1 0 1 0 wO wP zJ rfl zK zL zM rfl zN rfl om om om om om om om om om om om om) H fun _ I=>go [.s 4 10]<|AS (bT) (IJ (x:=Ot 25) (y:=Ot 26) 0 0 0 0 kr kr kr ⟨rfl,rfl⟩ _) ?_
 have J:=I.c.b.b.t10
 refine g0<|IM call7 (aF l m o p q 4 1 1 1 1 2 1 1 2 1 t u z A ([]++ [(1,(0:Int),1)]) 3 zH 0 1 0 zO rfl om om om om om om) J fun _ L=>g0 ?_
 exact AD _ [] L.i.t1
end Go.Proofs.YtcgkoffnknpgjaaGreatDoor
