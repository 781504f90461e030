/- Walks, printed by my generator t20.py. -/
import Derived.Test.YtcgkoffnknpgjaaGreatDoorBundle47
import Derived.Test.YtcgkoffnknpgjaaGreatDoorHq
import Derived.Test.YtcgkoffnknpgjaaGreatDoorBundle45
import Derived.Test.YtcgkoffnknpgjaaGreatDoorBundle34
namespace Go.Proofs.YtcgkoffnknpgjaaGreatDoor
set_option linter.unusedVariables false
set_option linter.unusedSimpArgs false
open Tryz
set_option maxHeartbeats 4000000
def Mch_p(b rg m:Nat)(D:List Ky)(nr:Nat)(p1:Option Addr)(c1:Nat)(p2:Option Addr)(c2:Nat)(rl:List (Int×Int)):List Assn:= [Cl b [iV m,pV rg,Value.slice p1 D.length c1,Value.slice p2 nr c2] 70,Sl 39 3 p1 D.length c1 (fl eO D),Sl 34 2 p2 nr c2 (fl eRz rl)]
def Mch(b rg m:Nat)(D:List Ky)(nr:Nat):Assn:=fun h=> ∃p1:Option Addr,∃c1:Nat,∃p2:Option Addr,∃c2:Nat,∃rl:List (Int×Int),(nr≤100000)∧(D.length≤2000)∧star (Mch_p b rg m D nr p1 c1 p2 c2 rl) h
theorem Mch_open{g w:World}{L_:List Assn}{b:Nat}{rg:Nat}{m:Nat}{D:List Ky}{nr:Nat}(h:sat g w (Mch b rg m D nr::L_)): ∃p1:Option Addr,∃c1:Nat,∃p2:Option Addr,∃c2:Nat,∃rl:List (Int×Int),(nr≤100000)∧(D.length≤2000)∧sat g w (Mch_p b rg m D nr p1 c1 p2 c2 rl++L_):=by
 obtain⟨⟨p1,c1,p2,c2,rl⟩,hp,h2⟩:=sat_open (X:=(Option Addr)×Nat×(Option Addr)×Nat×(List (Int×Int))) (p:=fun q_=>(nr≤100000)∧(D.length≤2000)) (B:=fun q_=>star (Mch_p b rg m D nr q_.1 q_.2.1 q_.2.2.1 q_.2.2.2.1 q_.2.2.2.2)) h (fun _ hk=>by obtain⟨p1,c1,p2,c2,rl,hp0,hp1,hk⟩:=hk;exact⟨(p1,c1,p2,c2,rl),⟨hp0,hp1⟩,hk⟩)
 exact⟨p1,c1,p2,c2,rl,hp.1,hp.2,sat_unstar h2⟩
theorem Mch_close{g w:World}{L_:List Assn}(b rg m:Nat)(D:List Ky)(nr:Nat)(p1:Option Addr)(c1:Nat)(p2:Option Addr)(c2:Nat)(rl:List (Int×Int))(hp0:nr≤100000)(hp1:D.length≤2000)(h:sat g w (Mch_p b rg m D nr p1 c1 p2 c2 rl++L_)):sat g w (Mch b rg m D nr::L_):=sat_imp (sat_star h) fun _ hk=>⟨p1,c1,p2,c2,rl,hp0,hp1,hk⟩
theorem ut20_1_valid(a b c:Nat)(d:Option Addr)(e f:Nat)(i:Option Addr)(j k:Nat):HQ 17 [pV a] [Cl a [iV b,pV c,.slice d e f,.slice i j k] 70] (.bool true) [Cl a [iV b,pV c,.slice d e f,.slice i j k] 70]:=by
 refine hiS func17 ntmps17 fun g w0 R h0=>go [rd 1 6 0 1 1 h0] ?_
 exact enR _ [] h0
theorem ut20_2_rules:HT prog 37 [] [] (fun v K=> ∃r10:Nat,v= .map (some r10)∧K= [Gp kI vF r10 ([(7,79),(8,80),(9,81),(10,82),(11,83),(12,84),(13,85),(14,86),(15,87),(16,88),(17,89)]:List (Int×Nat))]):=by
 refine hiS func37 ntmps37 fun g w0 R h0=>g0 ?_
 refine actG ?_
 refine ag_makeMap (t:=106) (d:=1) kI vF kr kr rfl h0 ?_
 intro r10 _ h12
 refine nxA ?_
 refine actG ?_
 refine ag_insert (t:=106) (m:=Ot 1) (x:=(Operand.const (iV 7))) (y:=(Operand.func 79)) (kv:=kI) (ve:=vF) kr kr underlying106 kyI 7 79 kr kr kr h12 ([(7,79)]:List (Int×Nat)) rfl ?_
 intro _ h14
 refine nxB ?_
 refine actG ?_
 refine ag_insert (t:=106) (m:=Ot 1) (x:=(Operand.const (iV 8))) (y:=(Operand.func 80)) (kv:=kI) (ve:=vF) kr kr underlying106 kyI 8 80 kr kr kr h14 ([(7,79),(8,80)]:List (Int×Nat)) (gs_miss om rfl) ?_
 intro _ h16
 refine nxB ?_
 refine actG ?_
 refine ag_insert (t:=106) (m:=Ot 1) (x:=(Operand.const (iV 9))) (y:=(Operand.func 81)) (kv:=kI) (ve:=vF) kr kr underlying106 kyI 9 81 kr kr kr h16 ([(7,79),(8,80),(9,81)]:List (Int×Nat)) (gs_miss om (gs_miss om rfl)) ?_
 intro _ h18
 refine nxB ?_
 refine actG ?_
 refine ag_insert (t:=106) (m:=Ot 1) (x:=(Operand.const (iV 10))) (y:=(Operand.func 82)) (kv:=kI) (ve:=vF) kr kr underlying106 kyI 10 82 kr kr kr h18 ([(7,79),(8,80),(9,81),(10,82)]:List (Int×Nat)) (gs_miss om (gs_miss om (gs_miss om rfl))) ?_
 intro _ h20
 refine nxB ?_
 refine actG ?_
 refine ag_insert (t:=106) (m:=Ot 1) (x:=(Operand.const (iV 11))) (y:=(Operand.func 83)) (kv:=kI) (ve:=vF) kr kr underlying106 kyI 11 83 kr kr kr h20 ([(7,79),(8,80),(9,81),(10,82),(11,83)]:List (Int×Nat)) (gs_miss om (gs_miss om (gs_miss om (gs_miss om rfl)))) ?_
 intro _ h22
 refine nxB ?_
 refine actG ?_
 refine ag_insert (t:=106) (m:=Ot 1) (x:=(Operand.const (iV 12))) (y:=(Operand.func 84)) (kv:=kI) (ve:=vF) kr kr underlying106 kyI 12 84 kr kr kr h22 ([(7,79),(8,80),(9,81),(10,82),(11,83),(12,84)]:List (Int×Nat)) (gs_miss om (gs_miss om (gs_miss om (gs_miss om (gs_miss om rfl))))) ?_
 intro _ h24
 refine nxB ?_
 refine actG ?_
 refine ag_insert (t:=106) (m:=Ot 1) (x:=(Operand.const (iV 13))) (y:=(Operand.func 85)) (kv:=kI) (ve:=vF) kr kr underlying106 kyI 13 85 kr kr kr h24 ([(7,79),(8,80),(9,81),(10,82),(11,83),(12,84),(13,85)]:List (Int×Nat)) (gs_miss om (gs_miss om (gs_miss om (gs_miss om (gs_miss om (gs_miss om rfl)))))) ?_
 intro _ h26
 refine nxB ?_
 refine actG ?_
 refine ag_insert (t:=106) (m:=Ot 1) (x:=(Operand.const (iV 14))) (y:=(Operand.func 86)) (kv:=kI) (ve:=vF) kr kr underlying106 kyI 14 86 kr kr kr h26 ([(7,79),(8,80),(9,81),(10,82),(11,83),(12,84),(13,85),(14,86)]:List (Int×Nat)) (gs_miss om (gs_miss om (gs_miss om (gs_miss om (gs_miss om (gs_miss om (gs_miss om rfl))))))) ?_
 intro _ h28
 refine nxB ?_
 refine actG ?_
 refine ag_insert (t:=106) (m:=Ot 1) (x:=(Operand.const (iV 15))) (y:=(Operand.func 87)) (kv:=kI) (ve:=vF) kr kr underlying106 kyI 15 87 kr kr kr h28 ([(7,79),(8,80),(9,81),(10,82),(11,83),(12,84),(13,85),(14,86),(15,87)]:List (Int×Nat)) (gs_miss om (gs_miss om (gs_miss om (gs_miss om (gs_miss om (gs_miss om (gs_miss om (gs_miss om rfl)))))))) ?_
 intro _ h30
 refine nxB ?_
 refine actG ?_
 refine ag_insert (t:=106) (m:=Ot 1) (x:=(Operand.const (iV 16))) (y:=(Operand.func 88)) (kv:=kI) (ve:=vF) kr kr underlying106 kyI 16 88 kr kr kr h30 ([(7,79),(8,80),(9,81),(10,82),(11,83),(12,84),(13,85),(14,86),(15,87),(16,88)]:List (Int×Nat)) (gs_miss om (gs_miss om (gs_miss om (gs_miss om (gs_miss om (gs_miss om (gs_miss om (gs_miss om (gs_miss om rfl))))))))) ?_
 intro _ h32
 refine nxB ?_
 refine actG ?_
 refine ag_insert (t:=106) (m:=Ot 1) (x:=(Operand.const (iV 17))) (y:=(Operand.func 89)) (kv:=kI) (ve:=vF) kr kr underlying106 kyI 17 89 kr kr kr h32 ([(7,79),(8,80),(9,81),(10,82),(11,83),(12,84),(13,85),(14,86),(15,87),(16,88),(17,89)]:List (Int×Nat)) (gs_miss om (gs_miss om (gs_miss om (gs_miss om (gs_miss om (gs_miss om (gs_miss om (gs_miss om (gs_miss om (gs_miss om rfl)))))))))) ?_
 intro _ h34
 refine nxB<|g0 ?_
 exact en (.map (some r10)) [] ⟨_,_,rfl,⟨r10,rfl,rfl⟩,h34⟩
theorem ut20_3_cycle(j a c:Nat)(F:Option Addr)(G H:Nat)(I:Option Addr)(J L k e l f:Nat)(m o:Int)(p:Nat)(q s t u x:Int)(y z A B:Nat)(C M D E i:Int)(hf0:0≤i)(hf1:0≤ -i+1000000):HQ 88 [pV j,.agg #[iV 16,iV 0,iV 0,iV 0,iV 0,.string (St [])]] [Cl j [iV a,pV c,.slice F G H,.slice I J L] 70,Cl c [pV k,pV e,pV l,iV f,iV a,iV m,iV o,iV p,iV q,iV s,iV t,iV u,uV x,pV y,pV z,pV A,pV B] 84,Cy e f a 0 C M D E i] (.agg #[iV 0,iV 0]) [Cl j [iV a,pV c,.slice F G H,.slice I J L] 70,Cl c [pV k,pV e,pV l,iV f,iV a,iV m,iV o,iV p,iV q,iV s,iV t,iV u,uV x,pV y,pV z,pV A,pV B] 84,Cy e f a 1 C 0 D E (i+1)]:=by
 refine hiS func88 ntmps88 fun g w0 R h0=>g0<|nP 37 [iV 16,iV 0,iV 0,iV 0,iV 0,.string (St [])] h0 (fun _ _ h12=> ?_)
 refine nP 34 [iV 0,iV 0] h12 (fun _ _ h15=> ?_)
 have h16:=h15.d.d.t6
 refine go [rd 1 3 2 1 1 h15]<|cl2 call145 (rgcyc c k e l f a m o p q s t u x y z A B C M D E i om om) h16 fun _ h18=> ?_
 have h19:=h18.b.t6
 refine g0<|sA [iV 0,iV 0] h19 fun _ h21=>g0 ?_
 exact enR _ [rd 0 0 0 0 2 h21] (tk4 (sf3 (sf3 (sf3 (sf5 h21.b.b.d.t6)))))
theorem ut20_4_do(l a b:Nat)(o:Option Addr)(p q:Nat)(s:Option Addr)(u y A f B i:Nat)(C D:Int)(E:Nat)(F G H I J:Int)(L M N O:Nat)(P T Q S k:Int)(hf0:0≤k)(hf1:0≤ -k+1000000):HQ 18 [pV l,.agg #[iV 16,iV 0,iV 0,iV 0,iV 0,.string (St [])]] [Cl l [iV a,pV b,.slice o p q,.slice s u y] 70,Cl b [pV A,pV f,pV B,iV i,iV a,iV C,iV D,iV E,iV F,iV G,iV H,iV I,uV J,pV L,pV M,pV N,pV O] 84,Cy f i a 0 P T Q S k] (.agg #[iV 0,iV 0]) [Cl l [iV a,pV b,.slice o p q,.slice s u y] 70,Cl b [pV A,pV f,pV B,iV i,iV a,iV C,iV D,iV E,iV F,iV G,iV H,iV I,uV J,pV L,pV M,pV N,pV O] 84,Cy f i a 1 P 0 Q S (k+1)]:=by
 refine hiS func18 ntmps18 fun g w0 R h0=>g0<|nP 37 [iV 16,iV 0,iV 0,iV 0,iV 0,.string (St [])] h0 (fun _ _ h12=> ?_)
 refine nP 34 [iV 0,iV 0] h12 (fun _ _ h15=> ?_)
 refine go [rd 1 0 1 0 6 h15]<|cl0 call34 opc_cyc h15 fun _ h17=>g0<|dw (fls [0,1] (Tr.an 2 (fls [3,4,5,6,7,8,9,10,11,12] Tr.nil))) h17 fun _ h19=>go [rd 3 1 1 0 1 h19]<|cw0 call35 opm_16 h19 fun _ h21=>⟨kd [],?_⟩
 refine g0<|dw (fls [0,1] (Tr.an 2 (fls [3,4,5,6,7,8,9,10,11,12,13] Tr.nil))) h21 fun _ h23=>go [rd 4 1 1 0 1 h23]<|cw0 call36 opn_16 h23 fun _ h25=>⟨kd [],?_⟩
 refine g0<|dw (fls [1,2] (Tr.an 0 (Tr.an 3 (fls [4,5,6,7,8] Tr.nil)))) h25 fun _ h27=>go [rd 6 2 1 0 1 h27]<|cG call37 ut20_2_rules h27 ?_
 rintro v K _ (⟨r28,rfl,rfl⟩) h30
 have h31:=ap1 h30
 refine⟨kd [rd 0 2 2 0 1 h31],?_⟩
 refine actG ?_
 refine act_law (d:=43) (.tuple #[.func (Fn.func 88) #[] #[],.bool true]) kr rfl (law_lkH (t:=106) (z:=Value.nilFunc) (m:=Ot 40) (x:=Ot 42) (kv:=kI) (ve:=vF) kr underlying106 kyI kr 16 kr kr (j:=0) h31 rfl (.func (Fn.func 88) #[] #[]) 88 (gg_miss om (gg_miss om (gg_miss om (gg_miss om (gg_miss om (gg_miss om (gg_miss om (gg_miss om (gg_miss om (gg_hit rfl)))))))))) rfl) ?_
 refine⟨kd [],nxG ?_⟩
 have h32:=h31.e.e.e.t7
 refine go [rd 8 2 2 0 6 h31]<|cl3 call88 (ut20_3_cycle l a b o p q s u y A f B i C D E F G H I J L M N O P T Q S k om om) h32 fun _ h34=>sA [iV 0,iV 0] h34.d.t7 fun _ h37=>g0 ?_
 exact enR _ [rd 0 0 0 0 2 h37] (tk4 (sf3 (sf3 (sf3 (sf6 h37.c.c.c.t7)))))
theorem mdo_cyc(mb rg ar yc rq n m:Nat)(zz yy:Int)(q:Nat)(mq bt ba cp fi:Int)(tb wd qo lk:Nat)(D:List Ky)(nr:Nat)(ec sn at_ nx bg:Int)(hf0:0≤ -(nr:Int)+99999)(hf1:0≤bg)(hf2:0≤ -bg+1000000):HQ 7 [pV mb,.agg #[iV 16,iV 0,iV 0,iV 0,iV 0,.string (St [])]] [Mch mb rg m D nr,Cl rg [pV ar,pV yc,pV rq,iV n,iV m,iV zz,iV yy,iV q,iV mq,iV bt,iV ba,iV cp,uV fi,pV tb,pV wd,pV qo,pV lk] 84,Cy yc n m 0 ec sn at_ nx bg] (.agg #[iV 0,iV 0]) [Mch mb rg m D (nr+1),Cl rg [pV ar,pV yc,pV rq,iV n,iV m,iV zz,iV yy,iV q,iV mq,iV bt,iV ba,iV cp,uV fi,pV tb,pV wd,pV qo,pV lk] 84,Cy yc n m 1 ec 0 at_ nx (bg+1)]:=by
 refine hiS func7 ntmps7 fun g w0 R h0=> ?_
 obtain⟨p10,c11,p12,c13,rl14,hp15,hp16,h17⟩:=Mch_open h0
 have h18:sat g _ (Cl mb [iV m,pV rg,.slice p10 D.length c11,.slice p12 nr c13] 70::_):=h17
 refine g0<|nP 37 [iV 16,iV 0,iV 0,iV 0,iV 0,.string (St [])] h18 (fun r19 _ h21=> ?_)
 refine nP 34 [iV 0,iV 0] h21 (fun r22 _ h24=> ?_)
 have h25:=h24.b.t8
 refine g0<|cl1 call17 (ut20_1_valid mb m rg p10 D.length c11 p12 nr c13) h25 fun _ h27=> ?_
 have h28:=h27.f.f.b.t8
 refine go [rd 3 1 2 0 6 h27]<|cl3 call18 (ut20_4_do mb m rg p10 D.length c11 p12 nr c13 ar yc rq n zz yy q mq bt ba cp fi tb wd qo lk ec sn at_ nx bg om om) h28 fun _ h30=>nP 34 [iV 0,iV 0] h30 (fun r31 _ h33=> ?_)
 refine sA [iV 0,iV 0] h33 fun _ h35=>g0<|dw (fls [0,1,2,3,4,5] (Tr.an 6 (Tr.an 7 (fls [8,9] (Tr.an 10 Tr.nil))))) h35 fun _ h37=>go [rd 4 4 1 3 1 h37,rd 4 5 0 0 2 h37]<|nG (fun q_=> .slice (some ⟨q_,0,none⟩) 1 1) 34 [iV 0,iV 0] h37 (fun r38 _ h40=>⟨kd [rd 0 4 2 3 1 h40],?_⟩)
 have h41:=h40.h.t10
 refine actG ?_
 refine aA 20 2 (Ot 17) (Ot 19) (.agg #[iV 0,iV 0]) p12 nr c13 1 1 (⟨r38,0,none⟩) 16 underlying68 h41 (fl eRz [(0,0)]) rfl (cell1 h41 rfl) (fl_one eRz_ok _) (nr+1) ?_
 intro p42 cap43 w44 h45
 have h46:sat g _ (Sl 34 2 p42 (nr+1) cap43 (fl eRz (rl14++ [(0,0)]))::_):=sJ h45
 obtain⟨hn47,hn48⟩:=sl_le h46
 refine⟨kd [],nxG ?_⟩
 have h49:=h46.c.t10
 refine g0<|sG [(3,.slice p42 (nr+1) cap43)] [iV m,pV rg,.slice p10 D.length c11,.slice p42 (nr+1) cap43] h49 fun _ h51=>⟨kd [],?_⟩
 have h52:=h51.f.t10
 refine go [rd 5 0 3 0 2 h51]<|sA [iV 0,iV 0] h52 fun w53 h54=>g0 ?_
 have h56:sat g _ (Mch mb rg m D (nr+1)::_):=Mch_close mb rg m D (nr+1) p10 c11 p42 cap43 (rl14++ [(0,0)]) om om h54.b.h.c.t10
 exact enR _ [rd 0 0 0 0 2 h54] (tk4 (sf3 (sf3 (sf3 (sf7 h56.e.e.b.t8)))))
theorem ut20_5_do(l a f:Nat)(M:Option Addr)(N O:Nat)(P:Option Addr)(Q S i o p k:Nat)(q s:Int)(u:Nat)(y A B C D:Int)(E F G H:Nat)(I:List Sl2)(J:Nat)(L:Int)(hf0:0≤(a:Int)-1):HQ 18 [pV l,.agg #[iV 4,iV 0,iV 0,iV 0,iV 0,.string (St [])]] [Cl l [iV a,pV f,.slice M N O,.slice P Q S] 70,Cl f [pV i,pV o,pV p,iV k,iV a,iV q,iV s,iV u,iV y,iV A,iV B,iV C,uV D,pV E,pV F,pV G,pV H] 84,Ar2 i k a I J L] (.agg #[iV 0,iV 0]) [Cl l [iV a,pV f,.slice M N O,.slice P Q S] 70,Cl f [pV i,pV o,pV p,iV k,iV a,iV q,iV s,iV u,iV y,iV A,iV B,iV C,uV D,pV E,pV F,pV G,pV H] 84,Ar1 i k a I J L]:=by
 refine hiS func18 ntmps18 fun g w0 R h0=>g0<|nP 37 [iV 4,iV 0,iV 0,iV 0,iV 0,.string (St [])] h0 (fun _ _ h12=> ?_)
 refine nP 34 [iV 0,iV 0] h12 (fun _ _ h15=> ?_)
 refine go [rd 1 0 1 0 6 h15]<|cl0 call34 opc_drop h15 fun _ h17=>g0<|dw (fls [0,1] (Tr.an 2 (fls [3,4,5,6,7,8,9,10,11,12] Tr.nil))) h17 fun _ h19=>go [rd 3 1 1 0 1 h19]<|cw0 call35 opm_4 h19 fun _ h21=>⟨kd [],?_⟩
 refine go [rd 3 5 1 1 1 h21,rd 3 9 2 0 1 h21,.v 3 10 (oF (0≥(a:Int)))]<|dw (fls [0,1] (Tr.an 2 (fls [3,4,5,6,7,8,9,10,11,12,13] Tr.nil))) h21 fun _ h23=>go [rd 4 1 1 0 1 h23]<|cw0 call36 opn_4 h23 fun _ h25=>⟨kd [],?_⟩
 refine g0<|dw (fls [1,2] (Tr.an 0 (Tr.an 3 (fls [4,5,6,7,8] Tr.nil)))) h25 fun _ h27=>go [rd 6 2 1 0 1 h27]<|cG call37 ut20_2_rules h27 ?_
 rintro v K _ (⟨r28,rfl,rfl⟩) h30
 have h31:=ap1 h30
 refine⟨kd [rd 0 2 2 0 1 h31],?_⟩
 refine actG ?_
 refine act_law (d:=43) (.tuple #[Value.nilFunc,.bool false]) kr rfl (law_lkN (t:=106) (z:=Value.nilFunc) (m:=Ot 40) (x:=Ot 42) (kv:=kI) (ve:=vF) kr underlying106 kyI kr 4 kr kr (j:=0) h31 rfl (gg_miss om (gg_miss om (gg_miss om (gg_miss om (gg_miss om (gg_miss om (gg_miss om (gg_miss om (gg_miss om (gg_miss om (gg_miss om rfl)))))))))))) ?_
 refine⟨kd [],nxG ?_⟩
 refine g0<|dw (fls [0,1,2,3,4] (Tr.an 5 (Tr.fl 6 (Tr.an 7 Tr.nil)))) h31 fun _ h33=> ?_
 have h34:=h33.e.e.t7
 refine go [rd 9 3 3 1 1 h33,rd 9 4 2 0 6 h33]<|cw2 call38 (rgdrop f i o p k a q s u y A B C D E F G H I J L om) h34 fun _ h36=>⟨kd [],?_⟩
 have h37:=h36.c.t7
 refine g0<|sB [iV 0,iV 0] h37 fun _ h39=>⟨kd [],?_⟩
 refine g0 ?_
 exact enR _ [rd 0 0 0 0 2 h39] (tk4 (sf3 (sf3 (sf3 (sf6 h39.b.b.e.t7)))))
theorem mdo_drop(mb rg ar yc rq n m:Nat)(zz yy:Int)(q:Nat)(mq bt ba cp fi:Int)(tb wd qo lk:Nat)(D:List Ky)(nr:Nat)(A:List Sl2)(s:Nat)(gn:Int)(hf0:0≤ -(nr:Int)+99999)(hf1:0≤(m:Int)-1):HQ 7 [pV mb,.agg #[iV 4,iV 0,iV 0,iV 0,iV 0,.string (St [])]] [Mch mb rg m D nr,Cl rg [pV ar,pV yc,pV rq,iV n,iV m,iV zz,iV yy,iV q,iV mq,iV bt,iV ba,iV cp,uV fi,pV tb,pV wd,pV qo,pV lk] 84,Ar2 ar n m A s gn] (.agg #[iV 0,iV 0]) [Mch mb rg m D (nr+1),Cl rg [pV ar,pV yc,pV rq,iV n,iV m,iV zz,iV yy,iV q,iV mq,iV bt,iV ba,iV cp,uV fi,pV tb,pV wd,pV qo,pV lk] 84,Ar1 ar n m A s gn]:=by
 refine hiS func7 ntmps7 fun g w0 R h0=> ?_
 obtain⟨p10,c11,p12,c13,rl14,hp15,hp16,h17⟩:=Mch_open h0
 have h18:sat g _ (Cl mb [iV m,pV rg,.slice p10 D.length c11,.slice p12 nr c13] 70::_):=h17
 refine g0<|nP 37 [iV 4,iV 0,iV 0,iV 0,iV 0,.string (St [])] h18 (fun r19 _ h21=> ?_)
 refine nP 34 [iV 0,iV 0] h21 (fun r22 _ h24=> ?_)
 have h25:=h24.b.t8
 refine g0<|cl1 call17 (ut20_1_valid mb m rg p10 D.length c11 p12 nr c13) h25 fun _ h27=> ?_
 have h28:=h27.f.f.b.t8
 refine go [rd 3 1 2 0 6 h27]<|cl3 call18 (ut20_5_do mb m rg p10 D.length c11 p12 nr c13 ar yc rq n zz yy q mq bt ba cp fi tb wd qo lk A s gn om) h28 fun _ h30=>nP 34 [iV 0,iV 0] h30 (fun r31 _ h33=> ?_)
 refine sA [iV 0,iV 0] h33 fun _ h35=>g0<|dw (fls [0,1,2,3,4,5] (Tr.an 6 (Tr.an 7 (fls [8,9] (Tr.an 10 Tr.nil))))) h35 fun _ h37=>go [rd 4 4 1 3 1 h37,rd 4 5 0 0 2 h37]<|nG (fun q_=> .slice (some ⟨q_,0,none⟩) 1 1) 34 [iV 0,iV 0] h37 (fun r38 _ h40=>⟨kd [rd 0 4 2 3 1 h40],?_⟩)
 have h41:=h40.h.t10
 refine actG ?_
 refine aA 20 2 (Ot 17) (Ot 19) (.agg #[iV 0,iV 0]) p12 nr c13 1 1 (⟨r38,0,none⟩) 16 underlying68 h41 (fl eRz [(0,0)]) rfl (cell1 h41 rfl) (fl_one eRz_ok _) (nr+1) ?_
 intro p42 cap43 w44 h45
 have h46:sat g _ (Sl 34 2 p42 (nr+1) cap43 (fl eRz (rl14++ [(0,0)]))::_):=sJ h45
 obtain⟨hn47,hn48⟩:=sl_le h46
 refine⟨kd [],nxG ?_⟩
 have h49:=h46.c.t10
 refine g0<|sG [(3,.slice p42 (nr+1) cap43)] [iV m,pV rg,.slice p10 D.length c11,.slice p42 (nr+1) cap43] h49 fun _ h51=>⟨kd [],?_⟩
 have h52:=h51.f.t10
 refine go [rd 5 0 3 0 2 h51]<|sA [iV 0,iV 0] h52 fun w53 h54=>g0 ?_
 have h56:sat g _ (Mch mb rg m D (nr+1)::_):=Mch_close mb rg m D (nr+1) p10 c11 p42 cap43 (rl14++ [(0,0)]) om om h54.b.h.c.t10
 exact enR _ [rd 0 0 0 0 2 h54] (tk4 (sf3 (sf3 (sf3 (sf7 h56.e.e.b.t8)))))
theorem ut20_6_ack(m f a i:Nat)(I:Option Addr)(J L:Nat)(M:Option Addr)(N O j k o b:Nat)(p q:Int)(s:Nat)(t u x y z:Int)(A B C D:Nat)(E F:Int)(d:Nat)(G:List Sl2)(l:Nat)(H:Int)(hf0:0≤(a:Int)-(f:Int)-1)(hf1:0≤2*(b:Int)-(d:Int)+3)(hf2:0≤(b:Int)-(l:Int)-1):HQ 79 [pV m,.agg #[iV 7,iV f,iV 0,iV 0,iV 0,.string (St [])]] [Cl m [iV a,pV i,.slice I J L,.slice M N O] 70,Cl i [pV j,pV k,pV o,iV b,iV a,iV p,iV q,iV s,iV t,iV u,iV x,iV y,uV z,pV A,pV B,pV C,pV D] 84,GcC k b a E F d f,GcA j b a G l H d] (.agg #[iV (ackE d),iV 0]) [Cl m [iV a,pV i,.slice I J L,.slice M N O] 70,Cl i [pV j,pV k,pV o,iV b,iV a,iV p,iV q,iV s,iV t,iV u,iV x,iV y,uV z,pV A,pV B,pV C,pV D] 84,GcC k b a E F d (f+1),GcA j b a G l H d]:=by
 refine hiS func79 ntmps79 fun g w0 R h0=>g0<|nP 37 [iV 7,iV f,iV 0,iV 0,iV 0,.string (St [])] h0 (fun _ _ h12=> ?_)
 refine nP 34 [iV 0,iV 0] h12 (fun _ _ h15=> ?_)
 refine g0<|dw (fls [0,1,2,3,4,5] (Tr.an 6 (Tr.fl 7 (Tr.an 8 Tr.nil)))) h15 fun _ h17=> ?_
 have h18:=h17.e.e.e.t7
 refine go [rd 1 3 2 1 1 h17,rd 1 5 1 1 1 h17]<|cw3 call135 (rgack i j k o b a p q s t u x y z A B C D G l H E F d f om om om) h18 fun _ h20=>⟨kd [],?_⟩
 have h21:=h20.c.t7
 refine g0<|sB [iV (ackE d),iV 0] h21 fun _ h23=>⟨kd [],?_⟩
 refine g0 ?_
 exact enR _ [rd 0 0 0 0 2 h23] (tk5 (sf4 (sf4 (sf4 (sf4 (sf6 h23.c.c.c.e.t7))))))
theorem ut20_7_do(p b a k:Nat)(s:Option Addr)(u y:Nat)(A:Option Addr)(B C l o D c:Nat)(E F:Int)(G:Nat)(H I J L M:Int)(N O P Q:Nat)(S T:Int)(i:Nat)(U:List Sl2)(q:Nat)(V:Int)(hf0:0≤ -(b:Int)+3)(hf1:0≤(a:Int)-(b:Int)-1)(hf2:0≤2*(c:Int)-(i:Int)+3)(hf3:0≤(c:Int)-(q:Int)-1):HQ 18 [pV p,.agg #[iV 7,iV b,iV 0,iV 0,iV 0,.string (St [])]] [Cl p [iV a,pV k,.slice s u y,.slice A B C] 70,Cl k [pV l,pV o,pV D,iV c,iV a,iV E,iV F,iV G,iV H,iV I,iV J,iV L,uV M,pV N,pV O,pV P,pV Q] 84,GcC o c a S T i b,GcA l c a U q V i] (.agg #[iV (ackE i),iV 0]) [Cl p [iV a,pV k,.slice s u y,.slice A B C] 70,Cl k [pV l,pV o,pV D,iV c,iV a,iV E,iV F,iV G,iV H,iV I,iV J,iV L,uV M,pV N,pV O,pV P,pV Q] 84,GcC o c a S T i (b+1),GcA l c a U q V i]:=by
 refine hiS func18 ntmps18 fun g w0 R h0=>g0<|nP 37 [iV 7,iV b,iV 0,iV 0,iV 0,.string (St [])] h0 (fun _ _ h12=> ?_)
 refine nP 34 [iV 0,iV 0] h12 (fun _ _ h15=> ?_)
 refine go [rd 1 0 1 0 6 h15]<|cl0 call34 (opc_ack (b:Int) om om) h15 fun _ h17=>g0<|dw (fls [0,1] (Tr.an 2 (fls [3,4,5,6,7,8,9,10,11,12] Tr.nil))) h17 fun _ h19=>go [rd 3 1 1 0 1 h19]<|cw0 call35 opm_7 h19 fun _ h21=>⟨kd [],?_⟩
 refine go [rd 3 5 1 1 1 h21,rd 3 9 2 0 1 h21,.v 3 10 (oF ((b:Int)≥(a:Int)))]<|dw (fls [0,1] (Tr.an 2 (fls [3,4,5,6,7,8,9,10,11,12,13] Tr.nil))) h21 fun _ h23=>go [rd 4 1 1 0 1 h23]<|cw0 call36 opn_7 h23 fun _ h25=>⟨kd [],?_⟩
 refine g0<|dw (fls [1,2] (Tr.an 0 (Tr.an 3 (fls [4,5,6,7,8] Tr.nil)))) h25 fun _ h27=>go [rd 6 2 1 0 1 h27]<|cG call37 ut20_2_rules h27 ?_
 rintro v K _ (⟨r28,rfl,rfl⟩) h30
 have h31:=ap1 h30
 refine⟨kd [rd 0 2 2 0 1 h31],?_⟩
 refine actG ?_
 refine act_law (d:=43) (.tuple #[.func (Fn.func 79) #[] #[],.bool true]) kr rfl (law_lkH (t:=106) (z:=Value.nilFunc) (m:=Ot 40) (x:=Ot 42) (kv:=kI) (ve:=vF) kr underlying106 kyI kr 7 kr kr (j:=0) h31 rfl (.func (Fn.func 79) #[] #[]) 79 (gg_hit rfl) rfl) ?_
 refine⟨kd [],nxG ?_⟩
 have h32:=h31.f.f.f.f.t8
 refine go [rd 8 2 2 0 6 h31]<|cl4 call79 (ut20_6_ack p b a k s u y A B C l o D c E F G H I J L M N O P Q S T i U q V om om om) h32 fun _ h34=>sA [iV (ackE i),iV 0] h34.e.t8 fun _ h37=>g0 ?_
 exact enR _ [rd 0 0 0 0 2 h37] (tk5 (sf4 (sf4 (sf4 (sf4 (sf7 h37.d.d.d.d.t8))))))
theorem mdo_ack(mb rg ar yc rq n m:Nat)(zz yy:Int)(q:Nat)(mq bt ba cp fi:Int)(tb wd qo lk:Nat)(D:List Ky)(nr:Nat)(A:List Sl2)(s:Nat)(gn ec bg:Int)(p j:Nat)(hf0:0≤ -(nr:Int)+99999)(hf1:0≤(m:Int)-(j:Int)-1)(hf2:0≤ -(m:Int)+4)(hf3:0≤2*(n:Int)-(p:Int)+3)(hf4:0≤(n:Int)-(s:Int)-1):HQ 7 [pV mb,.agg #[iV 7,iV j,iV 0,iV 0,iV 0,.string (St [])]] [Mch mb rg m D nr,Cl rg [pV ar,pV yc,pV rq,iV n,iV m,iV zz,iV yy,iV q,iV mq,iV bt,iV ba,iV cp,uV fi,pV tb,pV wd,pV qo,pV lk] 84,GcC yc n m ec bg p j,GcA ar n m A s gn p] (.agg #[iV (ackE p),iV 0]) [Mch mb rg m D (nr+1),Cl rg [pV ar,pV yc,pV rq,iV n,iV m,iV zz,iV yy,iV q,iV mq,iV bt,iV ba,iV cp,uV fi,pV tb,pV wd,pV qo,pV lk] 84,GcC yc n m ec bg p (j+1),GcA ar n m A s gn p]:=by
 refine hiS func7 ntmps7 fun g w0 R h0=> ?_
 obtain⟨p10,c11,p12,c13,rl14,hp15,hp16,h17⟩:=Mch_open h0
 have h18:sat g _ (Cl mb [iV m,pV rg,.slice p10 D.length c11,.slice p12 nr c13] 70::_):=h17
 refine g0<|nP 37 [iV 7,iV j,iV 0,iV 0,iV 0,.string (St [])] h18 (fun r19 _ h21=> ?_)
 refine nP 34 [iV 0,iV 0] h21 (fun r22 _ h24=> ?_)
 have h25:=h24.b.t9
 refine g0<|cl1 call17 (ut20_1_valid mb m rg p10 D.length c11 p12 nr c13) h25 fun _ h27=> ?_
 have h28:=h27.x.x.x.c.t9
 refine go [rd 3 1 2 0 6 h27]<|cl4 call18 (ut20_7_do mb j m rg p10 D.length c11 p12 nr c13 ar yc rq n zz yy q mq bt ba cp fi tb wd qo lk ec bg p A s gn om om om om) h28 fun _ h30=>nP 34 [iV 0,iV 0] h30 (fun r31 _ h33=> ?_)
 refine sA [iV (ackE p),iV 0] h33 fun _ h35=>g0<|dw (fls [0,1,2,3,4,5] (Tr.an 6 (Tr.an 7 (fls [8,9] (Tr.an 10 Tr.nil))))) h35 fun _ h37=>go [rd 4 4 1 3 1 h37,rd 4 5 0 0 2 h37]<|nG (fun q_=> .slice (some ⟨q_,0,none⟩) 1 1) 34 [iV (ackE p),iV 0] h37 (fun r38 _ h40=>⟨kd [rd 0 4 2 3 1 h40],?_⟩)
 have h41:=h40.i.t11
 refine actG ?_
 refine aA 20 2 (Ot 17) (Ot 19) (.agg #[iV 0,iV 0]) p12 nr c13 1 1 (⟨r38,0,none⟩) 16 underlying68 h41 (fl eRz [((ackE p),0)]) rfl (cell1 h41 rfl) (fl_one eRz_ok _) (nr+1) ?_
 intro p42 cap43 w44 h45
 have h46:sat g _ (Sl 34 2 p42 (nr+1) cap43 (fl eRz (rl14++ [((ackE p),0)]))::_):=sJ h45
 obtain⟨hn47,hn48⟩:=sl_le h46
 refine⟨kd [],nxG ?_⟩
 have h49:=h46.c.t11
 refine g0<|sG [(3,.slice p42 (nr+1) cap43)] [iV m,pV rg,.slice p10 D.length c11,.slice p42 (nr+1) cap43] h49 fun _ h51=>⟨kd [],?_⟩
 have h52:=h51.x.t11
 refine go [rd 5 0 3 0 2 h51]<|sA [iV (ackE p),iV 0] h52 fun w53 h54=>g0 ?_
 have h56:sat g _ (Mch mb rg m D (nr+1)::_):=Mch_close mb rg m D (nr+1) p10 c11 p42 cap43 (rl14++ [((ackE p),0)]) om om h54.b.i.c.t11
 exact enR _ [rd 0 0 0 0 2 h54] (tk5 (sf4 (sf4 (sf4 (sf4 (sf8 h56.f.f.f.c.t9))))))
theorem ut20_8_mark(t c a k:Nat)(L:Option Addr)(M N:Nat)(O:Option Addr)(P Q l m o b:Nat)(u x:Int)(i:Nat)(y z A B C:Int)(D E F G:Nat)(p H:Int)(e j:Nat)(I:List Sl2)(q:Nat)(s J:Int)(S:GOk b a e j)(hf0:0≤(c:Int)-1)(hf1:0≤ -(c:Int)+10000)(hf2:0≤(b:Int)-(q:Int)-1)(hf3:0≤p)(hf4:0≤ -p+1000000)(hf5:0≤(a:Int)-1)(hf6:0≤(i:Int)-1)(hf7:0≤s-1):HQ 85 [pV t,.agg #[iV 13,iV 0,iV c,iV 0,iV 0,.string (St [])]] [Cl t [iV a,pV k,.slice L M N,.slice O P Q] 70,Cl k [pV l,pV m,pV o,iV b,iV a,iV u,iV x,iV i,iV y,iV z,iV A,iV B,uV C,pV D,pV E,pV F,pV G] 84,GcC m b a p H e j,GcA l b a I q s e,Rq0 o i J] (.agg #[iV 0,iV 0]) [Cl t [iV a,pV k,.slice L M N,.slice O P Q] 70,Cl k [pV l,pV m,pV o,iV b,iV a,iV u,iV x,iV i,iV y,iV z,iV A,iV B,uV C,pV D,pV E,pV F,pV G] 84,GcC m b a p H ((mv b a c (e,j)).1) ((mv b a c (e,j)).2),GcA l b a I q s ((mv b a c (e,j)).1),Rq0 o i J]:=by
 refine hiS func85 ntmps85 fun g w0 R h0=>g0<|nP 37 [iV 13,iV 0,iV c,iV 0,iV 0,.string (St [])] h0 (fun _ _ h12=> ?_)
 refine nP 34 [iV 0,iV 0] h12 (fun _ _ h15=> ?_)
 refine g0<|dw (fls [0,1,2,3,4,5] (Tr.an 6 (Tr.fl 7 (Tr.an 8 Tr.nil)))) h15 fun _ h17=> ?_
 have h18:=h17.f.f.f.f.t8
 refine go [rd 1 3 2 1 1 h17,rd 1 5 1 2 1 h17]<|cw4 call142 (rgmark k l m o b a u x i y z A B C D E F G I q s p H e j J c S om om om om om om om om) h18 fun _ h20=>⟨kd [],?_⟩
 have h21:=h20.d.t8
 refine g0<|sB [iV 0,iV 0] h21 fun _ h23=>⟨kd [],?_⟩
 refine g0 ?_
 exact enR _ [rd 0 0 0 0 2 h23] (tk6 (sf5 (sf5 (sf5 (sf5 (sf5 (sf7 h23.d.d.d.d.f.t8)))))))
theorem ut20_9_do(y c a o:Nat)(C:Option Addr)(D E:Nat)(F:Option Addr)(G H p q s b:Nat)(I J:Int)(k:Nat)(L M N O P:Int)(Q S T U:Nat)(u V:Int)(i l:Nat)(W:List Sl2)(A:Nat)(B X:Int)(Y:GOk b a i l)(hf0:0≤(c:Int)-1)(hf1:0≤ -(c:Int)+10000)(hf2:0≤(b:Int)-(A:Int)-1)(hf3:0≤u)(hf4:0≤ -u+1000000)(hf5:0≤(a:Int)-1)(hf6:0≤(k:Int)-1)(hf7:0≤B-1):HQ 18 [pV y,.agg #[iV 13,iV 0,iV c,iV 0,iV 0,.string (St [])]] [Cl y [iV a,pV o,.slice C D E,.slice F G H] 70,Cl o [pV p,pV q,pV s,iV b,iV a,iV I,iV J,iV k,iV L,iV M,iV N,iV O,uV P,pV Q,pV S,pV T,pV U] 84,GcC q b a u V i l,GcA p b a W A B i,Rq0 s k X] (.agg #[iV 0,iV 0]) [Cl y [iV a,pV o,.slice C D E,.slice F G H] 70,Cl o [pV p,pV q,pV s,iV b,iV a,iV I,iV J,iV k,iV L,iV M,iV N,iV O,uV P,pV Q,pV S,pV T,pV U] 84,GcC q b a u V ((mv b a c (i,l)).1) ((mv b a c (i,l)).2),GcA p b a W A B ((mv b a c (i,l)).1),Rq0 s k X]:=by
 refine hiS func18 ntmps18 fun g w0 R h0=>g0<|nP 37 [iV 13,iV 0,iV c,iV 0,iV 0,.string (St [])] h0 (fun _ _ h12=> ?_)
 refine nP 34 [iV 0,iV 0] h12 (fun _ _ h15=> ?_)
 refine go [rd 1 0 1 0 6 h15]<|cl0 call34 (opc_mark c om om) h15 fun _ h17=>g0<|dw (fls [0,1] (Tr.an 2 (fls [3,4,5,6,7,8,9,10,11,12] Tr.nil))) h17 fun _ h19=>go [rd 3 1 1 0 1 h19]<|cw0 call35 opm_13 h19 fun _ h21=>⟨kd [],?_⟩
 refine g0<|dw (fls [0,1] (Tr.an 2 (fls [3,4,5,6,7,8,9,10,11,12,13] Tr.nil))) h21 fun _ h23=>go [rd 4 1 1 0 1 h23]<|cw0 call36 opn_13 h23 fun _ h25=>⟨kd [],?_⟩
 refine g0<|dw (fls [1,2] (Tr.an 0 (Tr.an 3 (fls [4,5,6,7,8] Tr.nil)))) h25 fun _ h27=>go [rd 6 2 1 0 1 h27]<|cG call37 ut20_2_rules h27 ?_
 rintro v K _ (⟨r28,rfl,rfl⟩) h30
 have h31:=ap1 h30
 refine⟨kd [rd 0 2 2 0 1 h31],?_⟩
 refine actG ?_
 refine act_law (d:=43) (.tuple #[.func (Fn.func 85) #[] #[],.bool true]) kr rfl (law_lkH (t:=106) (z:=Value.nilFunc) (m:=Ot 40) (x:=Ot 42) (kv:=kI) (ve:=vF) kr underlying106 kyI kr 13 kr kr (j:=0) h31 rfl (.func (Fn.func 85) #[] #[]) 85 (gg_miss om (gg_miss om (gg_miss om (gg_miss om (gg_miss om (gg_miss om (gg_hit rfl))))))) rfl) ?_
 refine⟨kd [],nxG ?_⟩
 have h32:=h31.x.x.x.x.x.t9
 refine go [rd 8 2 2 0 6 h31]<|cl5 call85 (ut20_8_mark y c a o C D E F G H p q s b I J k L M N O P Q S T U u V i l W A B X Y om om om om om om om om) h32 fun _ h34=>sA [iV 0,iV 0] h34.f.t9 fun _ h37=>g0 ?_
 exact enR _ [rd 0 0 0 0 2 h37] (tk6 (sf5 (sf5 (sf5 (sf5 (sf5 (sf8 h37.e.e.e.e.e.t9)))))))
theorem mdo_mark(mb rg ar yc rq n m:Nat)(zz yy:Int)(q:Nat)(mq bt ba cp fi:Int)(tb wd qo lk:Nat)(D:List Ky)(nr:Nat)(A:List Sl2)(s:Nat)(gn ec bg:Int)(p j:Nat)(f:Int)(k:Nat)(hG:GOk n m p j)(hf0:0≤ -(nr:Int)+99999)(hf1:0≤(k:Int)-1)(hf2:0≤ -(k:Int)+10000)(hf3:0≤(n:Int)-(s:Int)-1)(hf4:0≤ec)(hf5:0≤ -ec+1000000)(hf6:0≤(m:Int)-1)(hf7:0≤(q:Int)-1)(hf8:0≤gn-1):HQ 7 [pV mb,.agg #[iV 13,iV 0,iV k,iV 0,iV 0,.string (St [])]] [Mch mb rg m D nr,Cl rg [pV ar,pV yc,pV rq,iV n,iV m,iV zz,iV yy,iV q,iV mq,iV bt,iV ba,iV cp,uV fi,pV tb,pV wd,pV qo,pV lk] 84,GcC yc n m ec bg p j,GcA ar n m A s gn p,Rq0 rq q f] (.agg #[iV 0,iV 0]) [Mch mb rg m D (nr+1),Cl rg [pV ar,pV yc,pV rq,iV n,iV m,iV zz,iV yy,iV q,iV mq,iV bt,iV ba,iV cp,uV fi,pV tb,pV wd,pV qo,pV lk] 84,GcC yc n m ec bg ((mv n m k (p,j)).1) ((mv n m k (p,j)).2),GcA ar n m A s gn ((mv n m k (p,j)).1),Rq0 rq q f]:=by
 refine hiS func7 ntmps7 fun g w0 R h0=> ?_
 obtain⟨p10,c11,p12,c13,rl14,hp15,hp16,h17⟩:=Mch_open h0
 have h18:sat g _ (Cl mb [iV m,pV rg,.slice p10 D.length c11,.slice p12 nr c13] 70::_):=h17
 refine g0<|nP 37 [iV 13,iV 0,iV k,iV 0,iV 0,.string (St [])] h18 (fun r19 _ h21=> ?_)
 refine nP 34 [iV 0,iV 0] h21 (fun r22 _ h24=> ?_)
 have h25:=h24.b.t10
 refine g0<|cl1 call17 (ut20_1_valid mb m rg p10 D.length c11 p12 nr c13) h25 fun _ h27=> ?_
 have h28:=h27.h.h.h.h.d.t10
 refine go [rd 3 1 2 0 6 h27]<|cl5 call18 (ut20_9_do mb k m rg p10 D.length c11 p12 nr c13 ar yc rq n zz yy q mq bt ba cp fi tb wd qo lk ec bg p j A s gn f hG om om om om om om om om) h28 fun _ h30=>nP 34 [iV 0,iV 0] h30 (fun r31 _ h33=> ?_)
 refine sA [iV 0,iV 0] h33 fun _ h35=>g0<|dw (fls [0,1,2,3,4,5] (Tr.an 6 (Tr.an 7 (fls [8,9] (Tr.an 10 Tr.nil))))) h35 fun _ h37=>go [rd 4 4 1 3 1 h37,rd 4 5 0 0 2 h37]<|nG (fun q_=> .slice (some ⟨q_,0,none⟩) 1 1) 34 [iV 0,iV 0] h37 (fun r38 _ h40=>⟨kd [rd 0 4 2 3 1 h40],?_⟩)
 have h41:=h40.j.t12
 refine actG ?_
 refine aA 20 2 (Ot 17) (Ot 19) (.agg #[iV 0,iV 0]) p12 nr c13 1 1 (⟨r38,0,none⟩) 16 underlying68 h41 (fl eRz [(0,0)]) rfl (cell1 h41 rfl) (fl_one eRz_ok _) (nr+1) ?_
 intro p42 cap43 w44 h45
 have h46:sat g _ (Sl 34 2 p42 (nr+1) cap43 (fl eRz (rl14++ [(0,0)]))::_):=sJ h45
 obtain⟨hn47,hn48⟩:=sl_le h46
 refine⟨kd [],nxG ?_⟩
 have h49:=h46.c.t12
 refine g0<|sG [(3,.slice p42 (nr+1) cap43)] [iV m,pV rg,.slice p10 D.length c11,.slice p42 (nr+1) cap43] h49 fun _ h51=>⟨kd [],?_⟩
 have h52:=h51.h.t12
 refine go [rd 5 0 3 0 2 h51]<|sA [iV 0,iV 0] h52 fun w53 h54=>g0 ?_
 have h56:sat g _ (Mch mb rg m D (nr+1)::_):=Mch_close mb rg m D (nr+1) p10 c11 p42 cap43 (rl14++ [(0,0)]) om om h54.b.j.c.t12
 exact enR _ [rd 0 0 0 0 2 h54] (tk6 (sf5 (sf5 (sf5 (sf5 (sf5 (sf9 h56.x.x.x.x.d.t10)))))))
theorem ut20_14_batch(E o p:Nat)(Q:Option Addr)(S T:Nat)(U:Option Addr)(V W F G q H:Nat)(I J:Int)(s:Nat)(e a c d L:Int)(t u y z:Nat)(M:Int)(j:Ts)(b:Wst)(k:Int)(D:KlT)(A:Int)(B:Ts)(N:Wst)(l m C:Int)(O:List UInt8)(P:KlT)(X:dueB j b.now a= [A])(Y:RunOk (⟨a,c,d⟩:Cf) b.now (j,b) [A])(Z:runB (⟨a,c,d⟩:Cf) b.now (j,b) [A]=(B,N))(aa:atsB (⟨a,c,d⟩:Cf) b.now (j,b) [A]= [(⟨0,(1,l,m),C,1⟩:At)])(ab:gget D (1,l,m)=some (O, -1,0,0,2))(ac:gset D (1,l,m) (O,k,0,C,3)=P)(hf0:0≤a-1)(hf1:0≤ -a+64)(hf2:0≤c-1)(hf3:0≤d-c)(hf4:0≤ -d+1048576)(hf5:0≤e-1)(hf6:0≤l)(hf7:0≤ -l+63)(hf8:0≤m-1)(hf9:0≤ -m+4294967295)(hf10:0≤C-1)(hf11:0≤ -C+3)(hf12:0≤k)(hf13:0≤ -k+9999)(hf14:0≤(B.R.length:Int)-(((nums B.R 3).length:Nat):Int)):HQ 86 [pV E,.agg #[iV 14,iV 0,iV 0,iV 0,iV 0,.string (St [])]] [Cl E [iV o,pV p,.slice Q S T,.slice U V W] 70,Cl p [pV F,pV G,pV q,iV H,iV o,iV I,iV J,iV s,iV e,iV a,iV c,iV d,uV L,pV t,pV u,pV y,pV z] 84,Rq0 q s M,TW t 256 j,Wd u b,Cl y [iV e,.pointer none] 191,Rpo z k D] (.agg #[iV 0,iV 0]) [Cl E [iV o,pV p,.slice Q S T,.slice U V W] 70,Cl p [pV F,pV G,pV q,iV H,iV o,iV I,iV J,iV s,iV e,iV a,iV c,iV d,uV L,pV t,pV u,pV y,pV z] 84,Rq0 q s M,TW t 256 B,Wd u N,Cl y [iV e,.pointer none] 191,Rpo z (k+1) P]:=by
 refine hiS func86 ntmps86 fun g w0 R h0=>g0<|nP 37 [iV 14,iV 0,iV 0,iV 0,iV 0,.string (St [])] h0 (fun _ _ h12=> ?_)
 refine nP 34 [iV 0,iV 0] h12 (fun _ _ h15=> ?_)
 have h18:=h15.h.h.h.h.h.h.t10
 refine go [rd 1 3 2 1 1 h15]<|cP call143 (rgbat10 p F G q H o I J s e a c d L t u y z M j b k D B N P A l m C O X Y Z aa ab ac om om om om om om om om om om om om om om om) h18 ?_
 rintro v K _ (⟨p16,c17,rfl,rfl⟩) h20
 have h22:=(ap7 h20).x.t11
 refine g0<|sA [iV 0,iV 0] h22 fun _ h24=>g0 ?_
 exact enR _ [rd 0 0 0 0 2 h24] (tk8 (sf7 (sf7 (sf7 (sf7 (sf7 (sf7 (sf7 (sf10 h24.f.f.f.f.f.f.i.t11)))))))))
theorem ut20_15_do(H q s:Nat)(J:Option Addr)(L M:Nat)(N:Option Addr)(O P Q S u T:Nat)(U V:Int)(y:Nat)(f a c e W:Int)(A B C D:Nat)(X:Int)(k:Ts)(b:Wst)(l:Int)(I:KlT)(E:Int)(F:Ts)(Y:Wst)(o p G:Int)(Z:List UInt8)(aa:KlT)(ab:dueB k b.now a= [E])(ac:RunOk (⟨a,c,e⟩:Cf) b.now (k,b) [E])(ad:runB (⟨a,c,e⟩:Cf) b.now (k,b) [E]=(F,Y))(ae:atsB (⟨a,c,e⟩:Cf) b.now (k,b) [E]= [(⟨0,(1,o,p),G,1⟩:At)])(af:gget I (1,o,p)=some (Z, -1,0,0,2))(ag:gset I (1,o,p) (Z,l,0,G,3)=aa)(hf0:0≤a-1)(hf1:0≤ -a+64)(hf2:0≤c-1)(hf3:0≤e-c)(hf4:0≤ -e+1048576)(hf5:0≤f-1)(hf6:0≤o)(hf7:0≤ -o+63)(hf8:0≤p-1)(hf9:0≤ -p+4294967295)(hf10:0≤G-1)(hf11:0≤ -G+3)(hf12:0≤l)(hf13:0≤ -l+9999)(hf14:0≤(F.R.length:Int)-(((nums F.R 3).length:Nat):Int)):HQ 18 [pV H,.agg #[iV 14,iV 0,iV 0,iV 0,iV 0,.string (St [])]] [Cl H [iV q,pV s,.slice J L M,.slice N O P] 70,Cl s [pV Q,pV S,pV u,iV T,iV q,iV U,iV V,iV y,iV f,iV a,iV c,iV e,uV W,pV A,pV B,pV C,pV D] 84,Rq0 u y X,TW A 256 k,Wd B b,Cl C [iV f,.pointer none] 191,Rpo D l I] (.agg #[iV 0,iV 0]) [Cl H [iV q,pV s,.slice J L M,.slice N O P] 70,Cl s [pV Q,pV S,pV u,iV T,iV q,iV U,iV V,iV y,iV f,iV a,iV c,iV e,uV W,pV A,pV B,pV C,pV D] 84,Rq0 u y X,TW A 256 F,Wd B Y,Cl C [iV f,.pointer none] 191,Rpo D (l+1) aa]:=by
 refine hiS func18 ntmps18 fun g w0 R h0=>g0<|nP 37 [iV 14,iV 0,iV 0,iV 0,iV 0,.string (St [])] h0 (fun _ _ h12=> ?_)
 refine nP 34 [iV 0,iV 0] h12 (fun _ _ h15=> ?_)
 refine go [rd 1 0 1 0 6 h15]<|cl0 call34 opc_bat h15 fun _ h17=>g0<|dw (fls [0,1] (Tr.an 2 (fls [3,4,5,6,7,8,9,10,11,12] Tr.nil))) h17 fun _ h19=>go [rd 3 1 1 0 1 h19]<|cw0 call35 opm_14 h19 fun _ h21=>⟨kd [],?_⟩
 refine g0<|dw (fls [0,1] (Tr.an 2 (fls [3,4,5,6,7,8,9,10,11,12,13] Tr.nil))) h21 fun _ h23=>go [rd 4 1 1 0 1 h23]<|cw0 call36 opn_14 h23 fun _ h25=>⟨kd [],?_⟩
 refine g0<|dw (fls [1,2] (Tr.an 0 (Tr.an 3 (fls [4,5,6,7,8] Tr.nil)))) h25 fun _ h27=>go [rd 6 2 1 0 1 h27]<|cG call37 ut20_2_rules h27 ?_
 rintro v K _ (⟨r28,rfl,rfl⟩) h30
 have h31:=ap1 h30
 refine⟨kd [rd 0 2 2 0 1 h31],?_⟩
 refine actG ?_
 refine act_law (d:=43) (.tuple #[.func (Fn.func 86) #[] #[],.bool true]) kr rfl (law_lkH (t:=106) (z:=Value.nilFunc) (m:=Ot 40) (x:=Ot 42) (kv:=kI) (ve:=vF) kr underlying106 kyI kr 14 kr kr (j:=0) h31 rfl (.func (Fn.func 86) #[] #[]) 86 (gg_miss om (gg_miss om (gg_miss om (gg_miss om (gg_miss om (gg_miss om (gg_miss om (gg_hit rfl)))))))) rfl) ?_
 refine⟨kd [],nxG ?_⟩
 have h32:=h31.i.i.i.i.i.i.i.t11
 refine go [rd 8 2 2 0 6 h31]<|cP call86 (ut20_14_batch H q s J L M N O P Q S u T U V y f a c e W A B C D X k b l I E F Y o p G Z aa ab ac ad ae af ag om om om om om om om om om om om om om om om) h32 ?_
 rintro v K _ (⟨rfl,rfl⟩) h34
 refine sA [iV 0,iV 0] ((ap7 h34).h.t11) fun _ h38=>g0 ?_
 exact enR _ [rd 0 0 0 0 2 h38] (tk8 (sf7 (sf7 (sf7 (sf7 (sf7 (sf7 (sf7 (sf10 h38.x.x.x.x.x.x.x.t11)))))))))
theorem mdo_bat10(mb rg ar yc rq n m:Nat)(zz yy:Int)(q:Nat)(mq bt ba cp fi:Int)(tb wd qo lk:Nat)(D:List Ky)(nr:Nat)(f:Int)(S:Ts)(W:Wst)(tz:Int)(E:KlT)(S2:Ts)(W2:Wst)(E2:KlT)(nz oz og wy:Int)(L:List UInt8)(hd:dueB S W.now bt= [nz])(hr:RunOk (⟨bt,ba,cp⟩:Cf) W.now (S,W) [nz])(hp:runB (⟨bt,ba,cp⟩:Cf) W.now (S,W) [nz]=(S2,W2))(ha:atsB (⟨bt,ba,cp⟩:Cf) W.now (S,W) [nz]= [(⟨0,(1,oz,og),wy,1⟩:At)])(hG:gget E (1,oz,og)=some (L, -1,0,0,2))(hS:gset E (1,oz,og) (L,tz,0,wy,3)=E2)(hf0:0≤ -(nr:Int)+99999)(hf1:0≤bt-1)(hf2:0≤ -bt+64)(hf3:0≤ba-1)(hf4:0≤cp-ba)(hf5:0≤ -cp+1048576)(hf6:0≤mq-1)(hf7:0≤oz)(hf8:0≤ -oz+63)(hf9:0≤og-1)(hf10:0≤ -og+4294967295)(hf11:0≤wy-1)(hf12:0≤ -wy+3)(hf13:0≤tz)(hf14:0≤ -tz+9999)(hf15:0≤(S2.R.length:Int)-(((nums S2.R 3).length:Nat):Int)):HQ 7 [pV mb,.agg #[iV 14,iV 0,iV 0,iV 0,iV 0,.string (St [])]] [Mch mb rg m D nr,Cl rg [pV ar,pV yc,pV rq,iV n,iV m,iV zz,iV yy,iV q,iV mq,iV bt,iV ba,iV cp,uV fi,pV tb,pV wd,pV qo,pV lk] 84,Rq0 rq q f,TW tb 256 S,Wd wd W,Cl qo [iV mq,.pointer none] 191,Rpo lk tz E] (.agg #[iV 0,iV 0]) [Mch mb rg m D (nr+1),Cl rg [pV ar,pV yc,pV rq,iV n,iV m,iV zz,iV yy,iV q,iV mq,iV bt,iV ba,iV cp,uV fi,pV tb,pV wd,pV qo,pV lk] 84,Rq0 rq q f,TW tb 256 S2,Wd wd W2,Cl qo [iV mq,.pointer none] 191,Rpo lk (tz+1) E2]:=by
 refine hiS func7 ntmps7 fun g w0 R h0=> ?_
 obtain⟨p10,c11,p12,c13,rl14,hp15,hp16,h17⟩:=Mch_open h0
 have h18:sat g _ (Cl mb [iV m,pV rg,.slice p10 D.length c11,.slice p12 nr c13] 70::_):=h17
 refine g0<|nP 37 [iV 14,iV 0,iV 0,iV 0,iV 0,.string (St [])] h18 (fun r19 _ h21=> ?_)
 refine nP 34 [iV 0,iV 0] h21 (fun r22 _ h24=> ?_)
 have h25:=h24.b.t12
 refine g0<|cl1 call17 (ut20_1_valid mb m rg p10 D.length c11 p12 nr c13) h25 fun _ h27=> ?_
 have h28:=h27.j.j.j.j.j.j.f.t12
 refine go [rd 3 1 2 0 6 h27]<|cP call18 (ut20_15_do mb m rg p10 D.length c11 p12 nr c13 ar yc rq n zz yy q mq bt ba cp fi tb wd qo lk f S W tz E nz S2 W2 oz og wy L E2 hd hr hp ha hG hS om om om om om om om om om om om om om om om) h28 ?_
 rintro v K _ (⟨rfl,rfl⟩) h30
 refine nP 34 [iV 0,iV 0] (ap7 h30) (fun r32 _ h34=> ?_)
 refine sA [iV 0,iV 0] h34 fun _ h36=>g0<|dw (fls [0,1,2,3,4,5] (Tr.an 6 (Tr.an 7 (fls [8,9] (Tr.an 10 Tr.nil))))) h36 fun _ h38=>go [rd 4 4 1 3 1 h38,rd 4 5 0 0 2 h38]<|nG (fun q_=> .slice (some ⟨q_,0,none⟩) 1 1) 34 [iV 0,iV 0] h38 (fun r39 _ h41=>⟨kd [rd 0 4 2 3 1 h41],?_⟩)
 have h42:=h41.l.t14
 refine actG ?_
 refine aA 20 2 (Ot 17) (Ot 19) (.agg #[iV 0,iV 0]) p12 nr c13 1 1 (⟨r39,0,none⟩) 16 underlying68 h42 (fl eRz [(0,0)]) rfl (cell1 h42 rfl) (fl_one eRz_ok _) (nr+1) ?_
 intro p43 cap44 w45 h46
 have h47:sat g _ (Sl 34 2 p43 (nr+1) cap44 (fl eRz (rl14++ [(0,0)]))::_):=sJ h46
 obtain⟨hn48,hn49⟩:=sl_le h47
 refine⟨kd [],nxG ?_⟩
 have h50:=h47.c.t14
 refine g0<|sG [(3,.slice p43 (nr+1) cap44)] [iV m,pV rg,.slice p10 D.length c11,.slice p43 (nr+1) cap44] h50 fun _ h52=>⟨kd [],?_⟩
 have h53:=h52.j.t14
 refine go [rd 5 0 3 0 2 h52]<|sA [iV 0,iV 0] h53 fun w54 h55=>g0 ?_
 have h57:sat g _ (Mch mb rg m D (nr+1)::_):=Mch_close mb rg m D (nr+1) p10 c11 p43 cap44 (rl14++ [(0,0)]) om om h55.b.l.c.t14
 exact enR _ [rd 0 0 0 0 2 h55] (tk8 (sf7 (sf7 (sf7 (sf7 (sf7 (sf7 (sf7 (sf11 h57.i.i.i.i.i.i.f.t12)))))))))
theorem ut20_16_close(F a t u:Nat)(y:Option Addr)(i z:Nat)(X:Option Addr)(Y Z:Nat)(G:List Ky)(H I A J:Nat)(L M:Int)(B:Nat)(N O P Q S:Int)(C D T U b aa:Nat)(ab:Int)(k:Ts)(E:Wst)(f l:Int)(m:Ts)(o p:Int)(q:List UInt8)(V:Ts)(ac:fndE k (1,(b:Int),f)=0)(ad:(fndX k (1,(b:Int),f)).num=l)(ae:clsL k (1,(b:Int),f)=true)(af:clsS k (1,(b:Int),f)=m)(ag:getR m l=⟨(1,o,p),1,0,0,0,q⟩)(ah:nE m l=0)(ai:setE m l ⟨(1,o,p),2,1,0,0,q⟩=0)(aj:setS m l ⟨(1,o,p),2,1,0,0,q⟩=V)(ak:E.now=0)(W:G[a]? =some (1,(b:Int),f))(hf0:0≤(i:Int)-(a:Int)-1)(hf1:0≤f-1)(hf2:0≤ -f+4294967295)(hf3:0≤ -(b:Int)+255)(hf4:0≤o)(hf5:0≤ -o+63)(hf6:0≤p-1)(hf7:0≤ -p+4294967295)(hf8:0≤(tagE q))(hf9:0≤ -(tagE q)):HQ 84 [pV F,.agg #[iV 12,iV 0,iV a,iV 0,iV 0,.string (St [])]] [Cl F [iV t,pV u,.slice y i z,.slice X Y Z] 70,Sl 39 3 y i z (fl eO G),Cl u [pV H,pV I,pV A,iV J,iV t,iV L,iV M,iV B,iV N,iV O,iV P,iV Q,uV S,pV C,pV D,pV T,pV U] 84,Rq1 A B b aa ab,TW C 256 k,Wd D E] (.agg #[iV 0,iV 0]) [Cl F [iV t,pV u,.slice y i z,.slice X Y Z] 70,Sl 39 3 y i z (fl eO G),Cl u [pV H,pV I,pV A,iV J,iV t,iV L,iV M,iV B,iV N,iV O,iV P,iV Q,uV S,pV C,pV D,pV T,pV U] 84,Rq0 A B 0,TW C 256 V,Wd D E]:=by
 refine hiS func84 ntmps84 fun g w0 R h0=>g0<|nP 37 [iV 12,iV 0,iV a,iV 0,iV 0,.string (St [])] h0 (fun _ _ h12=> ?_)
 refine nP 34 [iV 0,iV 0] h12 (fun _ _ h15=> ?_)
 refine g0<|dw (fls [0,1,2,3,4,5,6,7,8,9,10,11] (Tr.an 12 (Tr.fl 13 (Tr.an 14 Tr.nil)))) h15 fun _ h17=> ?_
 obtain⟨b18,hp19⟩:=sl_ptr0 (j:=3) h17 rfl om
 refine go [rd 1 3 2 1 1 h17,rd 1 7 2 2 1 h17,rd 1 9 1 2 1 h17,.s 1 10]<|lw (.pointer (some ⟨b18,a*3,none⟩)) (fun _=>liP (Ot 12) (Ot 14) y b18 0 (a:Int) i z underlying67 3 a hp19 (a*3)) ?_
 have h20:=h17.c.t9
 have hl21:=fl_n eO_ok dc h20
 have h22:=h20.x.x.x.x.t9
 refine go [.r 1 11 b18 (a*3) [iV 1,iV b,uV f] ⟨gvc 0 h20 rfl hp19 eO_ok 0 (iV 1) W (a*3),gvc 0 h20 rfl hp19 eO_ok 1 (iV b) W (a*3+1),gvc 0 h20 rfl hp19 eO_ok 2 (uV f) W (a*3+2),trivial⟩]<|cw4 call141 (rgcls1 u H I A J t L M B N O P Q S C D T U q k m V E o p l b f aa ab ac ad ae af ag ah ai aj ak om om om om om om om om om) h22 fun _ h24=>⟨kd [],?_⟩
 have h25:=h24.e.t9
 refine g0<|sB [iV 0,iV 0] h25 fun _ h27=>⟨kd [],?_⟩
 refine g0 ?_
 exact enR _ [rd 0 0 0 0 2 h27] (tk7 (sf6 (sf6 (sf6 (sf6 (sf6 (sf6 (sf8 h27.d.d.d.d.e.x.t9))))))))
theorem ut20_17_do(F a e u:Nat)(y:Option Addr)(i A:Nat)(I:Option Addr)(J L:Nat)(G:List Ky)(M N B O:Nat)(P Q:Int)(C:Nat)(S T U V W:Int)(D E X Y b aa:Nat)(ab:Int)(k:Ts)(H:Wst)(c l:Int)(o:Ts)(p q:Int)(s:List UInt8)(Z:Ts)(ac:fndE k (1,(b:Int),c)=0)(ad:(fndX k (1,(b:Int),c)).num=l)(ae:clsL k (1,(b:Int),c)=true)(af:clsS k (1,(b:Int),c)=o)(ag:getR o l=⟨(1,p,q),1,0,0,0,s⟩)(ah:nE o l=0)(ai:setE o l ⟨(1,p,q),2,1,0,0,s⟩=0)(aj:setS o l ⟨(1,p,q),2,1,0,0,s⟩=Z)(ak:H.now=0)(al:G[a]? =some (1,(b:Int),c))(hf0:0≤ -(a:Int)+1999)(hf1:0≤(e:Int)-1)(hf2:0≤(i:Int)-(a:Int)-1)(hf3:0≤c-1)(hf4:0≤ -c+4294967295)(hf5:0≤ -(b:Int)+255)(hf6:0≤p)(hf7:0≤ -p+63)(hf8:0≤q-1)(hf9:0≤ -q+4294967295)(hf10:0≤(tagE s))(hf11:0≤ -(tagE s)):HQ 18 [pV F,.agg #[iV 12,iV 0,iV a,iV 0,iV 0,.string (St [])]] [Cl F [iV e,pV u,.slice y i A,.slice I J L] 70,Sl 39 3 y i A (fl eO G),Cl u [pV M,pV N,pV B,iV O,iV e,iV P,iV Q,iV C,iV S,iV T,iV U,iV V,uV W,pV D,pV E,pV X,pV Y] 84,Rq1 B C b aa ab,TW D 256 k,Wd E H] (.agg #[iV 0,iV 0]) [Cl F [iV e,pV u,.slice y i A,.slice I J L] 70,Sl 39 3 y i A (fl eO G),Cl u [pV M,pV N,pV B,iV O,iV e,iV P,iV Q,iV C,iV S,iV T,iV U,iV V,uV W,pV D,pV E,pV X,pV Y] 84,Rq0 B C 0,TW D 256 Z,Wd E H]:=by
 refine hiS func18 ntmps18 fun g w0 R h0=>g0<|nP 37 [iV 12,iV 0,iV a,iV 0,iV 0,.string (St [])] h0 (fun _ _ h12=> ?_)
 refine nP 34 [iV 0,iV 0] h12 (fun _ _ h15=> ?_)
 refine go [rd 1 0 1 0 6 h15]<|cl0 call34 (opc_close a om om) h15 fun _ h17=>g0<|dw (fls [0,1] (Tr.an 2 (fls [3,4,5,6,7,8,9,10,11,12] Tr.nil))) h17 fun _ h19=>go [rd 3 1 1 0 1 h19]<|cw0 call35 opm_12 h19 fun _ h21=>⟨kd [],?_⟩
 refine go [rd 3 5 1 1 1 h21,rd 3 9 2 0 1 h21,.v 3 10 (oF (0≥(e:Int)))]<|dw (fls [0,1] (Tr.an 2 (fls [3,4,5,6,7,8,9,10,11,12,13] Tr.nil))) h21 fun _ h23=>go [rd 4 1 1 0 1 h23]<|cw0 call36 opn_12 h23 fun _ h25=>⟨kd [],?_⟩
 refine go [rd 4 5 1 2 1 h25,rd 4 9 2 2 1 h25,.v 4 11 (oF ((a:Int)≥(i:Int)))]<|dw (fls [1,2] (Tr.an 0 (Tr.an 3 (fls [4,5,6,7,8] Tr.nil)))) h25 fun _ h27=>go [rd 6 2 1 0 1 h27]<|cG call37 ut20_2_rules h27 ?_
 rintro v K _ (⟨r28,rfl,rfl⟩) h30
 have h31:=ap1 h30
 refine⟨kd [rd 0 2 2 0 1 h31],?_⟩
 refine actG ?_
 refine act_law (d:=43) (.tuple #[.func (Fn.func 84) #[] #[],.bool true]) kr rfl (law_lkH (t:=106) (z:=Value.nilFunc) (m:=Ot 40) (x:=Ot 42) (kv:=kI) (ve:=vF) kr underlying106 kyI kr 12 kr kr (j:=0) h31 rfl (.func (Fn.func 84) #[] #[]) 84 (gg_miss om (gg_miss om (gg_miss om (gg_miss om (gg_miss om (gg_hit rfl)))))) rfl) ?_
 refine⟨kd [],nxG ?_⟩
 have h32:=h31.h.h.h.h.h.h.t10
 refine go [rd 8 2 2 0 6 h31]<|cl6 call84 (ut20_16_close F a e u y i A I J L G M N B O P Q C S T U V W D E X Y b aa ab k H c l o p q s Z ac ad ae af ag ah ai aj ak al om om om om om om om om om om) h32 fun _ h34=>sA [iV 0,iV 0] h34.x.t10 fun _ h37=>g0 ?_
 exact enR _ [rd 0 0 0 0 2 h37] (tk7 (sf6 (sf6 (sf6 (sf6 (sf6 (sf6 (sf9 h37.f.f.f.f.f.f.t10))))))))
theorem mdo_cls1(mb rg ar yc rq n m:Nat)(zz yy:Int)(q:Nat)(mq bt ba cp fi:Int)(tb wd qo lk:Nat)(D:List Ky)(nr:Nat)(L:List UInt8)(S S2 S3:Ts)(W:Wst)(oz og nz:Int)(dk:Nat)(dg:Int)(s:Nat)(gn:Int)(i:Nat)(hF:fndE S (1,(dk:Int),dg)=0)(hN:(fndX S (1,(dk:Int),dg)).num=nz)(hL:clsL S (1,(dk:Int),dg)=true)(hS:clsS S (1,(dk:Int),dg)=S2)(hG:getR S2 nz=⟨(1,oz,og),1,0,0,0,L⟩)(hE:nE S2 nz=0)(hX:setE S2 nz ⟨(1,oz,og),2,1,0,0,L⟩=0)(hY:setS S2 nz ⟨(1,oz,og),2,1,0,0,L⟩=S3)(hW:W.now=0)(hD:D[i]? =some (1,(dk:Int),dg))(hf0:0≤ -(nr:Int)+99999)(hf1:0≤dg-1)(hf2:0≤ -dg+4294967295)(hf3:0≤ -(dk:Int)+255)(hf4:0≤oz)(hf5:0≤ -oz+63)(hf6:0≤og-1)(hf7:0≤ -og+4294967295)(hf8:0≤(tagE L))(hf9:0≤ -(tagE L))(hf10:0≤(D.length:Int)-(i:Int)-1)(hf11:0≤(m:Int)-1):HQ 7 [pV mb,.agg #[iV 12,iV 0,iV i,iV 0,iV 0,.string (St [])]] [Mch mb rg m D nr,Cl rg [pV ar,pV yc,pV rq,iV n,iV m,iV zz,iV yy,iV q,iV mq,iV bt,iV ba,iV cp,uV fi,pV tb,pV wd,pV qo,pV lk] 84,Rq1 rq q dk s gn,TW tb 256 S,Wd wd W] (.agg #[iV 0,iV 0]) [Mch mb rg m D (nr+1),Cl rg [pV ar,pV yc,pV rq,iV n,iV m,iV zz,iV yy,iV q,iV mq,iV bt,iV ba,iV cp,uV fi,pV tb,pV wd,pV qo,pV lk] 84,Rq0 rq q 0,TW tb 256 S3,Wd wd W]:=by
 refine hiS func7 ntmps7 fun g w0 R h0=> ?_
 obtain⟨p10,c11,p12,c13,rl14,hp15,hp16,h17⟩:=Mch_open h0
 have h18:sat g _ (Cl mb [iV m,pV rg,.slice p10 D.length c11,.slice p12 nr c13] 70::_):=h17
 refine g0<|nP 37 [iV 12,iV 0,iV i,iV 0,iV 0,.string (St [])] h18 (fun r19 _ h21=> ?_)
 refine nP 34 [iV 0,iV 0] h21 (fun r22 _ h24=> ?_)
 have h25:=h24.b.t10
 refine g0<|cl1 call17 (ut20_1_valid mb m rg p10 D.length c11 p12 nr c13) h25 fun _ h27=> ?_
 have h28:=h27.h.h.h.h.x.e.t10
 refine go [rd 3 1 2 0 6 h27]<|cl6 call18 (ut20_17_do mb i m rg p10 D.length c11 p12 nr c13 D ar yc rq n zz yy q mq bt ba cp fi tb wd qo lk dk s gn S W dg nz S2 oz og L S3 hF hN hL hS hG hE hX hY hW hD om om om om om om om om om om om om) h28 fun _ h30=>nP 34 [iV 0,iV 0] h30 (fun r31 _ h33=> ?_)
 refine sA [iV 0,iV 0] h33 fun _ h35=>g0<|dw (fls [0,1,2,3,4,5] (Tr.an 6 (Tr.an 7 (fls [8,9] (Tr.an 10 Tr.nil))))) h35 fun _ h37=>go [rd 4 4 1 3 1 h37,rd 4 5 0 0 2 h37]<|nG (fun q_=> .slice (some ⟨q_,0,none⟩) 1 1) 34 [iV 0,iV 0] h37 (fun r38 _ h40=>⟨kd [rd 0 4 2 3 1 h40],?_⟩)
 have h41:=h40.j.t12
 refine actG ?_
 refine aA 20 2 (Ot 17) (Ot 19) (.agg #[iV 0,iV 0]) p12 nr c13 1 1 (⟨r38,0,none⟩) 16 underlying68 h41 (fl eRz [(0,0)]) rfl (cell1 h41 rfl) (fl_one eRz_ok _) (nr+1) ?_
 intro p42 cap43 w44 h45
 have h46:sat g _ (Sl 34 2 p42 (nr+1) cap43 (fl eRz (rl14++ [(0,0)]))::_):=sJ h45
 obtain⟨hn47,hn48⟩:=sl_le h46
 refine⟨kd [],nxG ?_⟩
 have h49:=h46.c.t12
 refine g0<|sG [(3,.slice p42 (nr+1) cap43)] [iV m,pV rg,.slice p10 D.length c11,.slice p42 (nr+1) cap43] h49 fun _ h51=>⟨kd [],?_⟩
 have h52:=h51.i.t12
 refine go [rd 5 0 3 0 2 h51]<|sA [iV 0,iV 0] h52 fun w53 h54=>g0 ?_
 have h56:sat g _ (Mch mb rg m D (nr+1)::_):=Mch_close mb rg m D (nr+1) p10 c11 p42 cap43 (rl14++ [(0,0)]) om om h54.b.e.c.t12
 exact enR _ [rd 0 0 0 0 2 h54] (tk6 (sf5 (sf5 (sf5 (sf5 (sf5 (sf9 h56.x.x.x.x.d.t10)))))))
theorem ut20_20_Use(e c:Nat)(a:Int)(i j k l m:Nat)(o p:Int)(q:Nat)(s t u x y:Int)(d z A B:Nat)(f:Ts)(D:fndE f (1,(c:Int),a)=7)(hf0:0≤ -(c:Int)+255)(hf1:0≤a-1)(hf2:0≤ -a+4294967295):HQ 139 [pV e,.agg #[iV 1,iV c,uV a]] [Cl e [pV j,pV k,pV l,iV m,iV i,iV o,iV p,iV q,iV s,iV t,iV u,iV x,uV y,pV d,pV z,pV A,pV B] 84,TW d 256 f] (iV 7) [Cl e [pV j,pV k,pV l,iV m,iV i,iV o,iV p,iV q,iV s,iV t,iV u,iV x,uV y,pV d,pV z,pV A,pV B] 84,TW d 256 f]:=by
 refine hiS func139 ntmps139 fun g w0 R h0=>g0<|nP 39 [iV 1,iV c,uV a] h0 (fun _ _ h12=> ?_)
 have h13:=h12.b.b.t4
 refine go [rd 1 1 0 0 3 h12]<|cl2 call207 (ut16_9_find e c a j k l m i o p q s t u x y d z A B f D om om om) h13 fun _ h15=>g0 ?_
 exact enR _ [] h15.C.t3
theorem ut20_21_use(t a k l:Nat)(m:Option Addr)(f o:Nat)(O:Option Addr)(P Q:Nat)(u:List Ky)(x y z A:Nat)(B C:Int)(D:Nat)(E F G H I:Int)(p J L M:Nat)(q:Ts)(i:Nat)(d:Int)(S:fndE q (1,(i:Int),d)=7)(N:u[a]? =some (1,(i:Int),d))(hf0:0≤(f:Int)-(a:Int)-1)(hf1:0≤ -(i:Int)+255)(hf2:0≤d-1)(hf3:0≤ -d+4294967295):HQ 82 [pV t,.agg #[iV 10,iV 0,iV a,iV 0,iV 0,.string (St [])]] [Cl t [iV k,pV l,.slice m f o,.slice O P Q] 70,Sl 39 3 m f o (fl eO u),Cl l [pV x,pV y,pV z,iV A,iV k,iV B,iV C,iV D,iV E,iV F,iV G,iV H,uV I,pV p,pV J,pV L,pV M] 84,TW p 256 q] (.agg #[iV 7,iV 0]) [Cl t [iV k,pV l,.slice m f o,.slice O P Q] 70,Sl 39 3 m f o (fl eO u),Cl l [pV x,pV y,pV z,iV A,iV k,iV B,iV C,iV D,iV E,iV F,iV G,iV H,uV I,pV p,pV J,pV L,pV M] 84,TW p 256 q]:=by
 refine hiS func82 ntmps82 fun g w0 R h0=>g0<|nP 37 [iV 10,iV 0,iV a,iV 0,iV 0,.string (St [])] h0 (fun _ _ h12=> ?_)
 refine nP 34 [iV 0,iV 0] h12 (fun _ _ h15=> ?_)
 refine g0<|dw (fls [0,1,2,3,4,5,6,7,8,9,10,11] (Tr.an 12 (Tr.fl 13 (Tr.an 14 Tr.nil)))) h15 fun _ h17=> ?_
 obtain⟨b18,hp19⟩:=sl_ptr0 (j:=3) h17 rfl om
 refine go [rd 1 3 2 1 1 h17,rd 1 7 2 2 1 h17,rd 1 9 1 2 1 h17,.s 1 10]<|lw (.pointer (some ⟨b18,a*3,none⟩)) (fun _=>liP (Ot 12) (Ot 14) m b18 0 (a:Int) f o underlying67 3 a hp19 (a*3)) ?_
 have h20:=h17.c.t7
 have hl21:=fl_n eO_ok dc h20
 have h22:=h20.e.e.t7
 refine go [.r 1 11 b18 (a*3) [iV 1,iV i,uV d] ⟨gvc 0 h20 rfl hp19 eO_ok 0 (iV 1) N (a*3),gvc 0 h20 rfl hp19 eO_ok 1 (iV i) N (a*3+1),gvc 0 h20 rfl hp19 eO_ok 2 (uV d) N (a*3+2),trivial⟩]<|cw2 call139 (ut20_20_Use l i d k x y z A B C D E F G H I p J L M q S om om om) h22 fun _ h24=>⟨kd [],?_⟩
 have h25:=h24.c.t7
 refine g0<|sB [iV 7,iV 0] h25 fun _ h27=>⟨kd [],?_⟩
 refine g0 ?_
 exact enR _ [rd 0 0 0 0 2 h27] (tk5 (sf4 (sf4 (sf4 (sf4 (sf6 h27.b.b.c.e.t7))))))
theorem ut20_22_do(q a b i:Nat)(k:Option Addr)(c l:Nat)(A:Option Addr)(B C:Nat)(s:List Ky)(D E F G:Nat)(H I:Int)(J:Nat)(L M N O P:Int)(o Q S T:Nat)(u:Ts)(y:Nat)(p:Int)(U:fndE u (1,(y:Int),p)=7)(V:s[a]? =some (1,(y:Int),p))(hf0:0≤ -(a:Int)+1999)(hf1:0≤(b:Int)-1)(hf2:0≤(c:Int)-(a:Int)-1)(hf3:0≤ -(y:Int)+255)(hf4:0≤p-1)(hf5:0≤ -p+4294967295):HQ 18 [pV q,.agg #[iV 10,iV 0,iV a,iV 0,iV 0,.string (St [])]] [Cl q [iV b,pV i,.slice k c l,.slice A B C] 70,Sl 39 3 k c l (fl eO s),Cl i [pV D,pV E,pV F,iV G,iV b,iV H,iV I,iV J,iV L,iV M,iV N,iV O,uV P,pV o,pV Q,pV S,pV T] 84,TW o 256 u] (.agg #[iV 7,iV 0]) [Cl q [iV b,pV i,.slice k c l,.slice A B C] 70,Sl 39 3 k c l (fl eO s),Cl i [pV D,pV E,pV F,iV G,iV b,iV H,iV I,iV J,iV L,iV M,iV N,iV O,uV P,pV o,pV Q,pV S,pV T] 84,TW o 256 u]:=by
 refine hiS func18 ntmps18 fun g w0 R h0=>g0<|nP 37 [iV 10,iV 0,iV a,iV 0,iV 0,.string (St [])] h0 (fun _ _ h12=> ?_)
 refine nP 34 [iV 0,iV 0] h12 (fun _ _ h15=> ?_)
 refine go [rd 1 0 1 0 6 h15]<|cl0 call34 (opc_use a om om) h15 fun _ h17=>g0<|dw (fls [0,1] (Tr.an 2 (fls [3,4,5,6,7,8,9,10,11,12] Tr.nil))) h17 fun _ h19=>go [rd 3 1 1 0 1 h19]<|cw0 call35 opm_10 h19 fun _ h21=>⟨kd [],?_⟩
 refine go [rd 3 5 1 1 1 h21,rd 3 9 2 0 1 h21,.v 3 10 (oF (0≥(b:Int)))]<|dw (fls [0,1] (Tr.an 2 (fls [3,4,5,6,7,8,9,10,11,12,13] Tr.nil))) h21 fun _ h23=>go [rd 4 1 1 0 1 h23]<|cw0 call36 opn_10 h23 fun _ h25=>⟨kd [],?_⟩
 refine go [rd 4 5 1 2 1 h25,rd 4 9 2 2 1 h25,.v 4 11 (oF ((a:Int)≥(c:Int)))]<|dw (fls [1,2] (Tr.an 0 (Tr.an 3 (fls [4,5,6,7,8] Tr.nil)))) h25 fun _ h27=>go [rd 6 2 1 0 1 h27]<|cG call37 ut20_2_rules h27 ?_
 rintro v K _ (⟨r28,rfl,rfl⟩) h30
 have h31:=ap1 h30
 refine⟨kd [rd 0 2 2 0 1 h31],?_⟩
 refine actG ?_
 refine act_law (d:=43) (.tuple #[.func (Fn.func 82) #[] #[],.bool true]) kr rfl (law_lkH (t:=106) (z:=Value.nilFunc) (m:=Ot 40) (x:=Ot 42) (kv:=kI) (ve:=vF) kr underlying106 kyI kr 10 kr kr (j:=0) h31 rfl (.func (Fn.func 82) #[] #[]) 82 (gg_miss om (gg_miss om (gg_miss om (gg_hit rfl)))) rfl) ?_
 refine⟨kd [],nxG ?_⟩
 have h32:=h31.f.f.f.f.t8
 refine go [rd 8 2 2 0 6 h31]<|cl4 call82 (ut20_21_use q a b i k c l A B C s D E F G H I J L M N O P o Q S T u y p U V om om om om) h32 fun _ h34=>sA [iV 7,iV 0] h34.e.t8 fun _ h37=>g0 ?_
 exact enR _ [rd 0 0 0 0 2 h37] (tk5 (sf4 (sf4 (sf4 (sf4 (sf7 h37.d.d.d.d.t8))))))
theorem mdo_use7(mb rg ar yc rq n m:Nat)(zz yy:Int)(q:Nat)(mq bt ba cp fi:Int)(tb wd qo lk:Nat)(D:List Ky)(nr:Nat)(S:Ts)(dk:Nat)(dg:Int)(i:Nat)(hF:fndE S (1,(dk:Int),dg)=7)(hD:D[i]? =some (1,(dk:Int),dg))(hf0:0≤ -(nr:Int)+99999)(hf1:0≤dg-1)(hf2:0≤ -dg+4294967295)(hf3:0≤ -(dk:Int)+255)(hf4:0≤(D.length:Int)-(i:Int)-1)(hf5:0≤(m:Int)-1):HQ 7 [pV mb,.agg #[iV 10,iV 0,iV i,iV 0,iV 0,.string (St [])]] [Mch mb rg m D nr,Cl rg [pV ar,pV yc,pV rq,iV n,iV m,iV zz,iV yy,iV q,iV mq,iV bt,iV ba,iV cp,uV fi,pV tb,pV wd,pV qo,pV lk] 84,TW tb 256 S] (.agg #[iV 7,iV 0]) [Mch mb rg m D (nr+1),Cl rg [pV ar,pV yc,pV rq,iV n,iV m,iV zz,iV yy,iV q,iV mq,iV bt,iV ba,iV cp,uV fi,pV tb,pV wd,pV qo,pV lk] 84,TW tb 256 S]:=by
 refine hiS func7 ntmps7 fun g w0 R h0=> ?_
 obtain⟨p10,c11,p12,c13,rl14,hp15,hp16,h17⟩:=Mch_open h0
 have h18:sat g _ (Cl mb [iV m,pV rg,.slice p10 D.length c11,.slice p12 nr c13] 70::_):=h17
 refine g0<|nP 37 [iV 10,iV 0,iV i,iV 0,iV 0,.string (St [])] h18 (fun r19 _ h21=> ?_)
 refine nP 34 [iV 0,iV 0] h21 (fun r22 _ h24=> ?_)
 have h25:=h24.b.t8
 refine g0<|cl1 call17 (ut20_1_valid mb m rg p10 D.length c11 p12 nr c13) h25 fun _ h27=> ?_
 have h28:=h27.f.f.e.c.t8
 refine go [rd 3 1 2 0 6 h27]<|cl4 call18 (ut20_22_do mb i m rg p10 D.length c11 p12 nr c13 D ar yc rq n zz yy q mq bt ba cp fi tb wd qo lk S dk dg hF hD om om om om om om) h28 fun _ h30=>nP 34 [iV 0,iV 0] h30 (fun r31 _ h33=> ?_)
 refine sA [iV 7,iV 0] h33 fun _ h35=>g0<|dw (fls [0,1,2,3,4,5] (Tr.an 6 (Tr.an 7 (fls [8,9] (Tr.an 10 Tr.nil))))) h35 fun _ h37=>go [rd 4 4 1 3 1 h37,rd 4 5 0 0 2 h37]<|nG (fun q_=> .slice (some ⟨q_,0,none⟩) 1 1) 34 [iV 7,iV 0] h37 (fun r38 _ h40=>⟨kd [rd 0 4 2 3 1 h40],?_⟩)
 have h41:=h40.h.t10
 refine actG ?_
 refine aA 20 2 (Ot 17) (Ot 19) (.agg #[iV 0,iV 0]) p12 nr c13 1 1 (⟨r38,0,none⟩) 16 underlying68 h41 (fl eRz [(7,0)]) rfl (cell1 h41 rfl) (fl_one eRz_ok _) (nr+1) ?_
 intro p42 cap43 w44 h45
 have h46:sat g _ (Sl 34 2 p42 (nr+1) cap43 (fl eRz (rl14++ [(7,0)]))::_):=sJ h45
 obtain⟨hn47,hn48⟩:=sl_le h46
 refine⟨kd [],nxG ?_⟩
 have h49:=h46.c.t10
 refine g0<|sG [(3,.slice p42 (nr+1) cap43)] [iV m,pV rg,.slice p10 D.length c11,.slice p42 (nr+1) cap43] h49 fun _ h51=>⟨kd [],?_⟩
 have h52:=h51.x.t10
 refine go [rd 5 0 3 0 2 h51]<|sA [iV 7,iV 0] h52 fun w53 h54=>g0 ?_
 have h56:sat g _ (Mch mb rg m D (nr+1)::_):=Mch_close mb rg m D (nr+1) p10 c11 p42 cap43 (rl14++ [(7,0)]) om om h54.b.e.c.t10
 exact enR _ [rd 0 0 0 0 2 h54] (tk4 (sf3 (sf3 (sf3 (sf7 h56.e.e.b.t8)))))
theorem t21e34_neq_t{n:Nat}{l:Fr}{o:Oper}{x y:Operand}(a0 a1 c0 c1:Int)(ho:o.op= .binOp .neq 34 x y 34)(hx:fe n l x= .agg #[iV a0,iV a1])(hy:fe n l y= .agg #[iV c0,iV c1])(h:a0=c0∧a1=c1)(w:World):(execOp (fe n l) o).run prog w= .ok (.value (.bool false)) w:=by
 obtain⟨rfl,rfl⟩:=h
 simp[execOp,ho,hx,hy,go_sem]
theorem t21e34_neq_f{n:Nat}{l:Fr}{o:Oper}{x y:Operand}(a0 a1 c0 c1:Int)(ho:o.op= .binOp .neq 34 x y 34)(hx:fe n l x= .agg #[iV a0,iV a1])(hy:fe n l y= .agg #[iV c0,iV c1])(h: ¬(a0=c0∧a1=c1))(w:World):(execOp (fe n l) o).run prog w= .ok (.value (.bool true)) w:=by
 by_cases h0:a0=c0
 · skip
   by_cases h1:a1=c1
   · exact absurd ⟨h0,h1⟩ h
   · simp[execOp,ho,hx,hy,go_sem,h0,h1]
 · simp[execOp,ho,hx,hy,go_sem,h0]
theorem ut21_1_give(i c:Nat)(f:Int)(j k:Nat)(l:Option Addr)(a m:Nat)(o:Option Addr)(p q:Nat)(t:List Ky)(hf0:0≤ -24*(a:Int)+140737488355304):HT prog 136 [pV i,.agg #[iV 1,iV c,uV f],iV 0] [Cl i [iV k,pV j,.slice l a m,.slice o p q] 70,Sl 39 3 l a m (fl eO t)] (fun v K=> ∃p29:Option Addr,∃cap30:Nat,v= .agg #[iV 0,iV a]∧K= [Cl i [iV k,pV j,.slice p29 (a+1) cap30,.slice o p q] 70,Sl 39 3 p29 (a+1) cap30 (fl eO (t++ [(1,(c:Int),f)]))]):=by
 refine hiS func136 ntmps136 fun g w0 R h0=>g0<|nP 39 [iV 1,iV c,uV f] h0 (fun r10 _ h12=> ?_)
 refine nP 34 [iV 0,iV 0] h12 (fun r13 _ h15=> ?_)
 refine go [rd 1 4 2 2 1 h15]<|nP 34 [iV 0,iV 0] h15 (fun r16 _ h18=> ?_)
 refine sA [iV 0,iV a] h18 fun _ h20=>g0<|dw (fls [0,1,2,3,4,5,6,7] Tr.nil) h20 fun _ h22=>go [rd 2 0 0 0 2 h22,rd 2 4 3 2 1 h22,.s 2 7]<|lw (.bool false) (fun _=>t21e34_neq_t (x:=Ot 15) (y:=Ot 21) 0 (a:Int) 0 (a:Int) kr kr kr ⟨rfl,rfl⟩ _)<|g0<|dw (fls [0,1,2,3,4,5] (Tr.an 6 (Tr.an 7 (fls [8,9] (Tr.an 10 Tr.nil))))) h22 fun _ h24=>go [rd 4 4 3 2 1 h24,rd 4 5 2 0 3 h24]<|nG (fun q_=> .slice (some ⟨q_,0,none⟩) 1 1) 39 [iV 1,iV c,uV f] h24 (fun r25 _ h27=>⟨kd [rd 0 4 4 2 1 h27],?_⟩)
 have h28:=h27.e.t7
 refine actG ?_
 refine aA 32 3 (Ot 29) (Ot 31) (.agg #[iV 0,iV 0,uV 0]) l a m 1 1 (⟨r25,0,none⟩) 24 underlying67 h28 (fl eO [(1,(c:Int),f)]) rfl (cell1 h28 rfl) (fl_one eO_ok _) (a+1) ?_
 intro p29 cap30 w31 h32
 have h33:sat g _ (Sl 39 3 p29 (a+1) cap30 (fl eO (t++ [(1,(c:Int),f)]))::_):=sJ h32
 obtain⟨hn34,hn35⟩:=sl_le h33
 refine⟨kd [],nxG ?_⟩
 have h36:=h33.e.t7
 refine g0<|sG [(2,.slice p29 (a+1) cap30)] [iV k,pV j,.slice p29 (a+1) cap30,.slice o p q] h36 fun _ h38=>⟨kd [],?_⟩
 have h39:=h38.d.t7
 refine go [rd 5 0 3 0 2 h38]<|sA [iV 0,iV a] h39 fun _ h41=>g0 ?_
 exact en (.agg #[iV 0,iV a]) [rd 0 0 0 0 2 h41] ⟨_,_,rfl,⟨p29,cap30,rfl,rfl⟩,(tk3 (sf2 (sf2 (sf6 h41.b.b.t7))))⟩
theorem ut21_2_open(I:Nat)(m:Int)(f:List UInt8)(a s:Nat)(J:Option Addr)(d L:Nat)(O:Option Addr)(P Q:Nat)(S:List Ky)(u x y c:Nat)(T U:Int)(z:Nat)(t V W X Y:Int)(B C D E:Nat)(G:List Sl2)(o Z aa:Int)(e:Ts)(M:Wst)(ab:Int)(N:KlT)(i:Nat)(l p q:Int)(ac:Wst)(F:Nat)(H:Int)(ad:Ts)(ae:KlT)(af:freeS G=some (i,l))(ag:acqE M 1 m=0)(ah:acqO M 1 m=(1,p,q))(ai:acqS M 1 m=ac)(aj:topE e (1,p,q) f ((i:Int),l)=0)(ak:opnD e (1,p,q) f ((i:Int),l)=(1,(F:Int),H))(al:opnS e (1,p,q) f ((i:Int),l)=ad)(am:gget N (1,p,q)=none)(ao:gset N (1,p,q) (f, -1,0,0,2)=ae)(hf0:0≤(a:Int)-1)(hf1:0≤m)(hf2:0≤ -m+65535)(hf3:0≤(tagE f))(hf4:0≤ -(tagE f))(hf5:0≤t-(e.R.length:Int)+(((nums e.R 3).length:Nat):Int)-1)(hf6:0≤(e.R.length:Int)-(((nums e.R 3).length:Nat):Int))(hf7:0≤ -(e.R.length:Int)+1999)(hf8:0≤(((inS 0 e.A 0).length:Nat):Int)-1)(hf9:0≤(((inS 0 G 0).length:Nat):Int)-1)(hf10:0≤o)(hf11:0≤ -o+1099511627776)(hf12:0≤ -(N.length:Int)+1999)(hf13:0≤p)(hf14:0≤ -p+63)(hf15:0≤q-1)(hf16:0≤ -q+4294967295)(hf17:0≤ -(F:Int)+255)(hf18:0≤(c:Int)-(i:Int)-1)(hf19:0≤ -(c:Int)+256)(hf20:0≤l-1)(hf21:0≤H)(hf22:0≤ -H+4294967295)(hf23:0≤ -24*(d:Int)+140737488355304):HT prog 80 [pV I,.agg #[iV 8,iV 0,iV 1,iV m,iV 0,.string (St f)]] [Cl I [iV a,pV s,.slice J d L,.slice O P Q] 70,Sl 39 3 J d L (fl eO S),Cl s [pV u,pV x,pV y,iV c,iV a,iV T,iV U,iV z,iV t,iV V,iV W,iV X,uV Y,pV B,pV C,pV D,pV E] 84,Ar0 u c a G,Cy x c a 0 o 0 Z aa o,Rq0 y z 0,TW B 256 e,Wd C M,Cl D [iV t,.pointer none] 191,Rpo E ab N] (fun v K=> ∃p22:Option Addr,∃cap23:Nat,v= .agg #[iV 0,iV d]∧K= [Cl I [iV a,pV s,.slice p22 (d+1) cap23,.slice O P Q] 70,Cl s [pV u,pV x,pV y,iV c,iV a,iV T,iV U,iV z,iV t,iV V,iV W,iV X,uV Y,pV B,pV C,pV D,pV E] 84,Ar2 u c a (takeA G) i l,Cy x c a 0 o 0 Z aa o,Rq1 y z F i l,TW B 256 ad,Wd C ac,Cl D [iV t,.pointer none] 191,Rpo E ab ae,Sl 39 3 p22 (d+1) cap23 (fl eO (S++ [(1,(F:Int),H)]))]):=by
 refine hiS func80 ntmps80 fun g w0 R h0=>g0<|nP 37 [iV 8,iV 0,iV 1,iV m,iV 0,.string (St f)] h0 (fun r10 _ h12=> ?_)
 refine nP 34 [iV 0,iV 0] h12 (fun r13 _ h15=> ?_)
 refine g0<|dw (fls [0,1,2,3,4,5,6,7,8,9,10,11,12] (Tr.an 13 (fls [14,15] (Tr.an 16 (Tr.an 17 Tr.nil))))) h15 fun _ h17=> ?_
 have h18:=h17.k.k.k.k.k.k.k.k.t13
 refine go [rd 1 4 2 1 1 h17,rd 1 6 1 1 1 h17,rd 1 8 1 2 1 h17,rd 1 10 1 3 1 h17,rd 1 12 1 5 1 h17]<|cG call137 (rgopen s u x y c a T U z t V W X Y B C D E m f G i l o Z aa e M ac p q F H ad ab N ae af ag ah ai aj ak al am ao om om om om om om om om om om om om om om om om om om om om om om om om) h18 ?_
 rintro v K w19 (⟨rfl,rfl⟩) h20
 have h21:sat g _ (Cl s [pV u,pV x,pV y,iV c,iV a,iV T,iV U,iV z,iV t,iV V,iV W,iV X,uV Y,pV B,pV C,pV D,pV E] 84::_):=h20
 refine⟨kd [],?_⟩
 have h24:=h21.k.k.t13
 refine g0<|cG call136 (ut21_1_give I F H s a J d L O P Q S om) h24 ?_
 rintro v K _ (⟨p22,cap23,rfl,rfl⟩) h26
 have h27:=ap2 h26
 refine⟨kd [],?_⟩
 refine sB [iV 0,iV d] h27.j.t13 fun _ h30=>⟨kd [],?_⟩
 refine g0 ?_
 exact en (.agg #[iV 0,iV d]) [rd 0 0 0 0 2 h30] ⟨_,_,rfl,⟨p22,cap23,rfl,rfl⟩,(tk11 (sf10 (sf10 (sf10 (sf10 (sf10 (sf10 (sf10 (sf10 (sf10 (sf10 (sf12 h30.b.j.j.j.j.j.j.j.j.j.t13))))))))))))⟩
theorem ut21_3_do(O:Nat)(i:Int)(c:List UInt8)(a B:Nat)(ai:Option Addr)(e aj:Nat)(S:Option Addr)(T U:Nat)(V:List Ky)(C D E b:Nat)(W X:Int)(F:Nat)(y Y Z aa ab:Int)(G H I J:Nat)(M:List Sl2)(q ac ad:Int)(f:Ts)(P:Wst)(ae:Int)(Q:KlT)(o:Nat)(p s u:Int)(af:Wst)(L:Nat)(N:Int)(ag:Ts)(ah:KlT)(ak:freeS M=some (o,p))(al:acqE P 1 i=0)(am:acqO P 1 i=(1,s,u))(ao:acqS P 1 i=af)(ap:topE f (1,s,u) c ((o:Int),p)=0)(aq:opnD f (1,s,u) c ((o:Int),p)=(1,(L:Int),N))(ar:opnS f (1,s,u) c ((o:Int),p)=ag)(au:gget Q (1,s,u)=none)(av:gset Q (1,s,u) (c, -1,0,0,2)=ah)(hf0:0≤i)(hf1:0≤(tagE c))(hf2:0≤ -(tagE c))(hf3:0≤(a:Int)-1)(hf4:0≤ -i+65535)(hf5:0≤y-(f.R.length:Int)+(((nums f.R 3).length:Nat):Int)-1)(hf6:0≤(f.R.length:Int)-(((nums f.R 3).length:Nat):Int))(hf7:0≤ -(f.R.length:Int)+1999)(hf8:0≤(((inS 0 f.A 0).length:Nat):Int)-1)(hf9:0≤(((inS 0 M 0).length:Nat):Int)-1)(hf10:0≤q)(hf11:0≤ -q+1099511627776)(hf12:0≤ -(Q.length:Int)+1999)(hf13:0≤s)(hf14:0≤ -s+63)(hf15:0≤u-1)(hf16:0≤ -u+4294967295)(hf17:0≤ -(L:Int)+255)(hf18:0≤(b:Int)-(o:Int)-1)(hf19:0≤ -(b:Int)+256)(hf20:0≤p-1)(hf21:0≤N)(hf22:0≤ -N+4294967295)(hf23:0≤ -24*(e:Int)+140737488355304):HT prog 18 [pV O,.agg #[iV 8,iV 0,iV 1,iV i,iV 0,.string (St c)]] [Cl O [iV a,pV B,.slice ai e aj,.slice S T U] 70,Sl 39 3 ai e aj (fl eO V),Cl B [pV C,pV D,pV E,iV b,iV a,iV W,iV X,iV F,iV y,iV Y,iV Z,iV aa,uV ab,pV G,pV H,pV I,pV J] 84,Ar0 C b a M,Cy D b a 0 q 0 ac ad q,Rq0 E F 0,TW G 256 f,Wd H P,Cl I [iV y,.pointer none] 191,Rpo J ae Q] (fun v K=> ∃p32:Option Addr,∃cap33:Nat,v= .agg #[iV 0,iV e]∧K= [Cl O [iV a,pV B,.slice p32 (e+1) cap33,.slice S T U] 70,Cl B [pV C,pV D,pV E,iV b,iV a,iV W,iV X,iV F,iV y,iV Y,iV Z,iV aa,uV ab,pV G,pV H,pV I,pV J] 84,Ar2 C b a (takeA M) o p,Cy D b a 0 q 0 ac ad q,Rq1 E F L o p,TW G 256 ag,Wd H af,Cl I [iV y,.pointer none] 191,Rpo J ae ah,Sl 39 3 p32 (e+1) cap33 (fl eO (V++ [(1,(L:Int),N)]))]):=by
 refine hiS func18 ntmps18 fun g w0 R h0=>g0<|nP 37 [iV 8,iV 0,iV 1,iV i,iV 0,.string (St c)] h0 (fun r10 _ h12=> ?_)
 refine nP 34 [iV 0,iV 0] h12 (fun r13 _ h15=> ?_)
 refine go [rd 1 0 1 0 6 h15]<|cl0 call34 (opc_open i c om om om om) h15 fun _ h17=>g0<|dw (fls [0,1] (Tr.an 2 (fls [3,4,5,6,7,8,9,10,11,12] Tr.nil))) h17 fun _ h19=>go [rd 3 1 1 0 1 h19]<|cw0 call35 opm_8 h19 fun _ h21=>⟨kd [],?_⟩
 refine go [rd 3 5 1 1 1 h21,rd 3 9 2 0 1 h21,.v 3 10 (oF (0≥(a:Int)))]<|dw (fls [0,1] (Tr.an 2 (fls [3,4,5,6,7,8,9,10,11,12,13] Tr.nil))) h21 fun _ h23=>go [rd 4 1 1 0 1 h23]<|cw0 call36 opn_8 h23 fun _ h25=>⟨kd [],?_⟩
 refine g0<|dw (fls [1,2] (Tr.an 0 (Tr.an 3 (fls [4,5,6,7,8] Tr.nil)))) h25 fun _ h27=>go [rd 6 2 1 0 1 h27]<|cG call37 ut20_2_rules h27 ?_
 rintro v K _ (⟨r28,rfl,rfl⟩) h30
 have h31:=ap1 h30
 refine⟨kd [rd 0 2 2 0 1 h31],?_⟩
 refine actG ?_
 refine act_law (d:=43) (.tuple #[.func (Fn.func 80) #[] #[],.bool true]) kr rfl (law_lkH (t:=106) (z:=Value.nilFunc) (m:=Ot 40) (x:=Ot 42) (kv:=kI) (ve:=vF) kr underlying106 kyI kr 8 kr kr (j:=0) h31 rfl (.func (Fn.func 80) #[] #[]) 80 (gg_miss om (gg_hit rfl)) rfl) ?_
 refine⟨kd [],nxG ?_⟩
 have h34:=h31.l.l.l.l.l.l.l.l.l.l.t14
 refine go [rd 8 2 2 0 6 h31]<|cP call80 (ut21_2_open O i c a B ai e aj S T U V C D E b W X F y Y Z aa ab G H I J M q ac ad f P ae Q o p s u af L N ag ah ak al am ao ap aq ar au av om om om om om om om om om om om om om om om om om om om om om om om om) h34 ?_
 rintro v K w35 (⟨p32,cap33,rfl,rfl⟩) h36
 have h37:sat g _ (Cl O [iV a,pV B,.slice p32 (e+1) cap33,.slice S T U] 70::_):=h36
 refine sA [iV 0,iV e] h37.k.t14 fun _ h40=>g0 ?_
 exact en (.agg #[iV 0,iV e]) [rd 0 0 0 0 2 h40] ⟨_,_,rfl,⟨p32,cap33,rfl,rfl⟩,(tk11 (sf10 (sf10 (sf10 (sf10 (sf10 (sf10 (sf10 (sf10 (sf10 (sf10 (sf13 h40.j.j.j.j.j.j.j.j.j.j.t14))))))))))))⟩
theorem mdo_open(mb rg ar yc rq n m:Nat)(zz yy:Int)(q:Nat)(mq bt ba cp fi:Int)(tb wd qo lk:Nat)(D:List Ky)(nr:Nat)(x:Int)(L:List UInt8)(A:List Sl2)(s:Nat)(gn ec at_ nx:Int)(S:Ts)(W W2:Wst)(oz og:Int)(dk:Nat)(dg:Int)(S2:Ts)(tz:Int)(E E2:KlT)(hA:freeS A=some (s,gn))(hWE:acqE W 1 x=0)(hWO:acqO W 1 x=(1,oz,og))(hWS:acqS W 1 x=W2)(hTE:topE S (1,oz,og) L ((s:Int),gn)=0)(hTD:opnD S (1,oz,og) L ((s:Int),gn)=(1,(dk:Int),dg))(hTS:opnS S (1,oz,og) L ((s:Int),gn)=S2)(hG:gget E (1,oz,og)=none)(hGS:gset E (1,oz,og) (L, -1,0,0,2)=E2)(hf0:0≤ -(nr:Int)+99999)(hf1:0≤(m:Int)-1)(hf2:0≤x)(hf3:0≤ -x+65535)(hf4:0≤(tagE L))(hf5:0≤ -(tagE L))(hf6:0≤mq-(S.R.length:Int)+(((nums S.R 3).length:Nat):Int)-1)(hf7:0≤(S.R.length:Int)-(((nums S.R 3).length:Nat):Int))(hf8:0≤ -(S.R.length:Int)+1999)(hf9:0≤(((inS 0 S.A 0).length:Nat):Int)-1)(hf10:0≤(((inS 0 A 0).length:Nat):Int)-1)(hf11:0≤ec)(hf12:0≤ -ec+1099511627776)(hf13:0≤ -(E.length:Int)+1999)(hf14:0≤oz)(hf15:0≤ -oz+63)(hf16:0≤og-1)(hf17:0≤ -og+4294967295)(hf18:0≤ -(dk:Int)+255)(hf19:0≤ -(s:Int)+255)(hf20:0≤(n:Int)-(s:Int)-1)(hf21:0≤ -(n:Int)+256)(hf22:0≤gn-1)(hf23:0≤dg)(hf24:0≤ -dg+4294967295)(hf25:0≤ -(D.length:Int)+1999):HQ 7 [pV mb,.agg #[iV 8,iV 0,iV 1,iV x,iV 0,.string (St L)]] [Mch mb rg m D nr,Cl rg [pV ar,pV yc,pV rq,iV n,iV m,iV zz,iV yy,iV q,iV mq,iV bt,iV ba,iV cp,uV fi,pV tb,pV wd,pV qo,pV lk] 84,Ar0 ar n m A,Cy yc n m 0 ec 0 at_ nx ec,Rq0 rq q 0,TW tb 256 S,Wd wd W,Cl qo [iV mq,.pointer none] 191,Rpo lk tz E] (.agg #[iV 0,iV (D.length:Int)]) [Mch mb rg m (D++ [(1,(dk:Int),dg)]) (nr+1),Cl rg [pV ar,pV yc,pV rq,iV n,iV m,iV zz,iV yy,iV q,iV mq,iV bt,iV ba,iV cp,uV fi,pV tb,pV wd,pV qo,pV lk] 84,Ar2 ar n m (takeA A) s gn,Cy yc n m 0 ec 0 at_ nx ec,Rq1 rq q dk s gn,TW tb 256 S2,Wd wd W2,Cl qo [iV mq,.pointer none] 191,Rpo lk tz E2]:=by
 refine hiS func7 ntmps7 fun g w0 R h0=> ?_
 obtain⟨p10,c11,p12,c13,rl14,hp15,hp16,h17⟩:=Mch_open h0
 have h18:sat g _ (Cl mb [iV m,pV rg,.slice p10 D.length c11,.slice p12 nr c13] 70::_):=h17
 refine g0<|nP 37 [iV 8,iV 0,iV 1,iV x,iV 0,.string (St L)] h18 (fun r19 _ h21=> ?_)
 refine nP 34 [iV 0,iV 0] h21 (fun r22 _ h24=> ?_)
 have h25:=h24.b.t14
 refine g0<|cl1 call17 (ut20_1_valid mb m rg p10 D.length c11 p12 nr c13) h25 fun _ h27=> ?_
 have h30:=h27.l.l.l.l.l.l.l.l.k.i.t14
 refine go [rd 3 1 2 0 6 h27]<|cP call18 (ut21_3_do mb x L m rg p10 D.length c11 p12 nr c13 D ar yc rq n zz yy q mq bt ba cp fi tb wd qo lk A ec at_ nx S W tz E s gn oz og W2 dk dg S2 E2 hA hWE hWO hWS hTE hTD hTS hG hGS om om om om om om om om om om om om om om om om om om om om om om om om) h30 ?_
 rintro v K w31 (⟨p28,cap29,rfl,rfl⟩) h32
 have h33:sat g _ (Cl mb [iV m,pV rg,.slice p28 (D.length+1) cap29,.slice p12 nr c13] 70::_):=h32
 refine nP 34 [iV 0,iV 0] h33 (fun r34 _ h36=> ?_)
 refine sA [iV 0,iV (D.length:Int)] h36 fun _ h38=>g0<|dw (fls [0,1,2,3,4,5] (Tr.an 6 (Tr.an 7 (fls [8,9] (Tr.an 10 Tr.nil))))) h38 fun _ h40=>go [rd 4 4 1 3 1 h40,rd 4 5 0 0 2 h40]<|nG (fun q_=> .slice (some ⟨q_,0,none⟩) 1 1) 34 [iV 0,iV (D.length:Int)] h40 (fun r41 _ h43=>⟨kd [rd 0 4 2 3 1 h43],?_⟩)
 have h44:=h43.n.t16
 refine actG ?_
 refine aA 20 2 (Ot 17) (Ot 19) (.agg #[iV 0,iV 0]) p12 nr c13 1 1 (⟨r41,0,none⟩) 16 underlying68 h44 (fl eRz [(0,(D.length:Int))]) rfl (cell1 h44 rfl) (fl_one eRz_ok _) (nr+1) ?_
 intro p45 cap46 w47 h48
 have h49:sat g _ (Sl 34 2 p45 (nr+1) cap46 (fl eRz (rl14++ [(0,(D.length:Int))]))::_):=sJ h48
 obtain⟨hn50,hn51⟩:=sl_le h49
 refine⟨kd [],nxG ?_⟩
 have h52:=h49.c.t16
 refine g0<|sG [(3,.slice p45 (nr+1) cap46)] [iV m,pV rg,.slice p28 (D.length+1) cap29,.slice p45 (nr+1) cap46] h52 fun _ h54=>⟨kd [],?_⟩
 have h55:=h54.m.t16
 refine go [rd 5 0 3 0 2 h54]<|sA [iV 0,iV (D.length:Int)] h55 fun w56 h57=>g0 ?_
 have h60:sat g w56 [Cl mb [iV m,pV rg,.slice p28 ((D++ [(1,(dk:Int),dg)]).length) cap29,.slice p45 (nr+1) cap46] 70,Sl 39 3 p28 ((D++ [(1,(dk:Int),dg)]).length) cap29 (fl eO (D++ [(1,(dk:Int),dg)])),Sl 34 2 p45 (nr+1) cap46 (fl eRz (rl14++ [(0,(D.length:Int))])),Cl r22 [iV 0,iV (D.length:Int)] 34,Cl r41 [iV 0,iV (D.length:Int)] 34,Cl r34 [iV 0,iV (D.length:Int)] 34,Cl rg [pV ar,pV yc,pV rq,iV n,iV m,iV zz,iV yy,iV q,iV mq,iV bt,iV ba,iV cp,uV fi,pV tb,pV wd,pV qo,pV lk] 84,Ar2 ar n m (takeA A) s gn,Cy yc n m 0 ec 0 at_ nx ec,Rq1 rq q dk s gn,TW tb 256 S2,Wd wd W2,Cl qo [iV mq,.pointer none] 191,Rpo lk tz E2,Cl r19 [iV 8,iV 0,iV 1,iV x,iV 0,.string (St L)] 37,R]:=(by rw[List.length_append];exact h57.b.m.c.t16)
 have h59:sat g _ (Mch mb rg m (D++ [(1,(dk:Int),dg)]) (nr+1)::_):=Mch_close mb rg m (D++ [(1,(dk:Int),dg)]) (nr+1) p28 cap29 p45 cap46 (rl14++ [(0,(D.length:Int))]) om (by rw[List.length_append];simp only[List.length_cons,List.length_nil];omega) h60
 exact enR _ [rd 0 0 0 0 2 h57] (tk10 (sf9 (sf9 (sf9 (sf9 (sf9 (sf9 (sf9 (sf9 (sf9 (sf13 h59.k.k.k.k.k.k.k.k.h.t14)))))))))))
theorem ut21_4_Left(d b:Nat)(e:List Sl2)(c:Nat):HQ 267 [pV d] [Cl d (pV c::iV b::fl eHo F256) 237,Tb c b e] (iV (((inS 0 e 0).length:Nat):Int)) [Cl d (pV c::iV b::fl eHo F256) 237,Tb c b e]:=by
 refine hiS func267 ntmps267 fun g w0 R h0=>g0<|cl1 call173 (ut1_1_valid d c b) h0 fun _ h11=> ?_
 have h12:=h11.a.t3
 refine go [rd 3 3 0 0 1 h11]<|cl1 call279 (sfree_ht c b e) h12 fun _ h14=>g0 ?_
 exact enR _ [] h14.a.t3
theorem ut21_5_room(j i k l d e:Nat)(m o:Int)(p:Nat)(q s t u x:Int)(y z A B:Nat)(f:List Sl2)(hf0:0≤(e:Int)-1)(hf1:0≤ -(((inS 0 f 0).length:Nat):Int)):HQ 201 [pV j,iV 0] [Cl j [pV i,pV k,pV l,iV d,iV e,iV m,iV o,iV p,iV q,iV s,iV t,iV u,uV x,pV y,pV z,pV A,pV B] 84,Ar0 i d e f] (iV 4) [Cl j [pV i,pV k,pV l,iV d,iV e,iV m,iV o,iV p,iV q,iV s,iV t,iV u,uV x,pV y,pV z,pV A,pV B] 84,Ar0 i d e f]:=by
 refine hiS func201 ntmps201 fun g w0 R h0=> ?_
 have h12:=h0.a.t3
 refine go [rd 1 4 0 0 1 h0]<|cP call265 (ast0_ht i d e f 0 om) h12 ?_
 rintro v K _ (⟨p10,c11,rfl,rfl⟩) h14
 have h15:=ap1 h14
 refine go [rd 4 8 1 0 1 h15]<|cP call266 (aheap0 i d e f) h15 ?_
 rintro v K _ (⟨h16,t17,rfl,rfl⟩) h19
 refine cl2 call267 (ut21_4_Left h16 d f t17) ((ap3 h19).b.b.t5) fun _ h23=>go [.v 4 11 (qeT (((inS 0 f 0).length:Nat):Int) 0)] ?_
 exact enR _ [] (tk3 (sf2 (sf2 (sf4 h23.b.c.t5))))
theorem ut21_6_Open(i:Nat)(F:Int)(q:List UInt8)(b j k s d:Nat)(t u:Int)(y:Nat)(f z A B C:Int)(l D m E:Nat)(G:List Sl2)(o H I:Int)(p:Ts)(hf0:0≤(b:Int)-1)(hf1:0≤F)(hf2:0≤ -F+65535)(hf3:0≤(tagE q))(hf4:0≤ -(tagE q))(hf5:0≤(p.R.length:Int)-(((nums p.R 3).length:Nat):Int))(hf6:0≤f-(p.R.length:Int)+(((nums p.R 3).length:Nat):Int)-1)(hf7:0≤o)(hf8:0≤ -o+1099511627776)(hf9:0≤ -(((inS 0 G 0).length:Nat):Int)):HQ 137 [pV i,iV 0,iV 1,iV F,.string (St q)] [Cl i [pV j,pV k,pV s,iV d,iV b,iV t,iV u,iV y,iV f,iV z,iV A,iV B,uV C,pV l,pV D,pV m,pV E] 84,Ar0 j d b G,Cy k d b 0 o 0 H I o,TW l 256 p,Cl m [iV f,.pointer none] 191] (.tuple #[.agg #[iV 0,iV 0,uV 0],iV 4]) [Cl i [pV j,pV k,pV s,iV d,iV b,iV t,iV u,iV y,iV f,iV z,iV A,iV B,uV C,pV l,pV D,pV m,pV E] 84,Ar0 j d b G,Cy k d b 0 o 0 H I o,TW l 256 p,Cl m [iV f,.pointer none] 191]:=by
 refine hiS func137 ntmps137 fun g w0 R h0=>g0<|nP 55 [pV i] h0 (fun _ _ h12=> ?_)
 refine nP 9 [.string (St q)] h12 (fun _ _ h15=> ?_)
 refine nP 39 [iV 0,iV 0,uV 0] h15 (fun _ _ h18=> ?_)
 have h19:=h18.c.t9
 refine go [rd 1 0 2 0 1 h18]<|cl1 call198 (ut15_10_mutator i j k s d b t u y f z A B C l D m E om) h19 fun _ h21=>g0<|cl0 call199 (ut15_11_good F om om) h21 fun _ h23=>go [rd 6 0 2 0 1 h23]<|cl0 call131 (tagc0 q om om) h23 fun _ h25=> ?_
 have h26:=h25.x.x.x.c.t9
 refine go [rd 9 0 3 0 1 h25]<|cl4 call200 (ut15_12_ask i j k s d b t u y f z A B C l D m E o H I p om om om om) h26 fun _ h28=> ?_
 have h29:=h28.x.a.t9
 refine go [rd 12 0 6 0 1 h28]<|cl2 call201 (ut21_5_room i j k s d b t u y f z A B C l D m E G om om) h29 fun _ h31=> ?_
 have h32:=h31.e.t9
 refine g0<|sA [iV 0,iV 0,uV 0] h32 fun _ h34=>g0 ?_
 exact enR _ [rd 0 0 0 0 3 h34] (tk6 (sf5 (sf5 (sf5 (sf5 (sf5 (sf8 h34.e.e.e.e.e.t9)))))))
theorem ut21_7_give(d e f:Nat)(i:Option Addr)(b j:Nat)(k:Option Addr)(l m:Nat):HQ 136 [pV d,.agg #[iV 0,iV 0,uV 0],iV 4] [Cl d [iV f,pV e,.slice i b j,.slice k l m] 70] (.agg #[iV 4,iV 0]) [Cl d [iV f,pV e,.slice i b j,.slice k l m] 70]:=by
 refine hiS func136 ntmps136 fun g w0 R h0=>g0<|nP 39 [iV 0,iV 0,uV 0] h0 (fun _ _ h12=> ?_)
 refine nP 34 [iV 0,iV 0] h12 (fun _ _ h15=> ?_)
 refine go [rd 1 4 2 2 1 h15]<|nP 34 [iV 0,iV 0] h15 (fun _ _ h18=> ?_)
 refine sA [iV 4,iV b] h18 fun _ h20=>g0<|dw (fls [0,1,2,3,4,5,6,7] Tr.nil) h20 fun _ h22=>go [rd 2 0 0 0 2 h22,rd 2 4 3 2 1 h22,.s 2 7]<|lw (.bool true) (fun _=>t21e34_neq_f (x:=Ot 15) (y:=Ot 21) 4 (b:Int) 0 (b:Int) kr kr kr om _) ?_
 have h23:=h22.a.t5
 refine g0<|sA [iV 4,iV 0] h23 fun _ h25=>g0 ?_
 exact enR _ [rd 0 0 0 0 2 h25] (tk2 (sf1 (sf4 h25.c.t5)))
theorem ut21_8_open(q:Nat)(j:Int)(k:List UInt8)(a e:Nat)(t:Option Addr)(u y:Nat)(z:Option Addr)(A B l m C b:Nat)(D E:Int)(F:Nat)(i G H I J:Int)(o L p M:Nat)(s:List Sl2)(c N O:Int)(d:Ts)(hf0:0≤(a:Int)-1)(hf1:0≤j)(hf2:0≤ -j+65535)(hf3:0≤(tagE k))(hf4:0≤ -(tagE k))(hf5:0≤(d.R.length:Int)-(((nums d.R 3).length:Nat):Int))(hf6:0≤i-(d.R.length:Int)+(((nums d.R 3).length:Nat):Int)-1)(hf7:0≤c)(hf8:0≤ -c+1099511627776)(hf9:0≤ -(((inS 0 s 0).length:Nat):Int)):HQ 80 [pV q,.agg #[iV 8,iV 0,iV 1,iV j,iV 0,.string (St k)]] [Cl q [iV a,pV e,.slice t u y,.slice z A B] 70,Cl e [pV l,pV m,pV C,iV b,iV a,iV D,iV E,iV F,iV i,iV G,iV H,iV I,uV J,pV o,pV L,pV p,pV M] 84,Ar0 l b a s,Cy m b a 0 c 0 N O c,TW o 256 d,Cl p [iV i,.pointer none] 191] (.agg #[iV 4,iV 0]) [Cl q [iV a,pV e,.slice t u y,.slice z A B] 70,Cl e [pV l,pV m,pV C,iV b,iV a,iV D,iV E,iV F,iV i,iV G,iV H,iV I,uV J,pV o,pV L,pV p,pV M] 84,Ar0 l b a s,Cy m b a 0 c 0 N O c,TW o 256 d,Cl p [iV i,.pointer none] 191]:=by
 refine hiS func80 ntmps80 fun g w0 R h0=>g0<|nP 37 [iV 8,iV 0,iV 1,iV j,iV 0,.string (St k)] h0 (fun _ _ h12=> ?_)
 refine nP 34 [iV 0,iV 0] h12 (fun _ _ h15=> ?_)
 refine g0<|dw (fls [0,1,2,3,4,5,6,7,8,9,10,11,12] (Tr.an 13 (fls [14,15] (Tr.an 16 (Tr.an 17 Tr.nil))))) h15 fun _ h17=> ?_
 have h18:=h17.x.x.x.x.x.t9
 refine go [rd 1 4 2 1 1 h17,rd 1 6 1 1 1 h17,rd 1 8 1 2 1 h17,rd 1 10 1 3 1 h17,rd 1 12 1 5 1 h17]<|cw5 call137 (ut21_6_Open e j k a l m C b D E F i G H I J o L p M s c N O d om om om om om om om om om om) h18 fun _ h20=>⟨kd [],?_⟩
 have h21:=h20.x.t9
 refine g0<|cw1 call136 (ut21_7_give q e a t u y z A B) h21 fun _ h23=>⟨kd [],?_⟩
 refine sB [iV 4,iV 0] h23.f.t9 fun _ h26=>⟨kd [],?_⟩
 refine g0 ?_
 exact enR _ [rd 0 0 0 0 2 h26] (tk7 (sf6 (sf6 (sf6 (sf6 (sf6 (sf6 (sf8 h26.f.f.f.f.f.f.t9))))))))
theorem ut21_9_do(y:Nat)(i:Int)(k:List UInt8)(a o:Nat)(B:Option Addr)(C D:Nat)(E:Option Addr)(F G p q H b:Nat)(I J:Int)(L:Nat)(l M N O P:Int)(s Q u S:Nat)(A:List Sl2)(c T U:Int)(e:Ts)(hf0:0≤i)(hf1:0≤(tagE k))(hf2:0≤ -(tagE k))(hf3:0≤(a:Int)-1)(hf4:0≤ -i+65535)(hf5:0≤(e.R.length:Int)-(((nums e.R 3).length:Nat):Int))(hf6:0≤l-(e.R.length:Int)+(((nums e.R 3).length:Nat):Int)-1)(hf7:0≤c)(hf8:0≤ -c+1099511627776)(hf9:0≤ -(((inS 0 A 0).length:Nat):Int)):HQ 18 [pV y,.agg #[iV 8,iV 0,iV 1,iV i,iV 0,.string (St k)]] [Cl y [iV a,pV o,.slice B C D,.slice E F G] 70,Cl o [pV p,pV q,pV H,iV b,iV a,iV I,iV J,iV L,iV l,iV M,iV N,iV O,uV P,pV s,pV Q,pV u,pV S] 84,Ar0 p b a A,Cy q b a 0 c 0 T U c,TW s 256 e,Cl u [iV l,.pointer none] 191] (.agg #[iV 4,iV 0]) [Cl y [iV a,pV o,.slice B C D,.slice E F G] 70,Cl o [pV p,pV q,pV H,iV b,iV a,iV I,iV J,iV L,iV l,iV M,iV N,iV O,uV P,pV s,pV Q,pV u,pV S] 84,Ar0 p b a A,Cy q b a 0 c 0 T U c,TW s 256 e,Cl u [iV l,.pointer none] 191]:=by
 refine hiS func18 ntmps18 fun g w0 R h0=>g0<|nP 37 [iV 8,iV 0,iV 1,iV i,iV 0,.string (St k)] h0 (fun _ _ h12=> ?_)
 refine nP 34 [iV 0,iV 0] h12 (fun _ _ h15=> ?_)
 refine go [rd 1 0 1 0 6 h15]<|cl0 call34 (opc_open i k om om om om) h15 fun _ h17=>g0<|dw (fls [0,1] (Tr.an 2 (fls [3,4,5,6,7,8,9,10,11,12] Tr.nil))) h17 fun _ h19=>go [rd 3 1 1 0 1 h19]<|cw0 call35 opm_8 h19 fun _ h21=>⟨kd [],?_⟩
 refine go [rd 3 5 1 1 1 h21,rd 3 9 2 0 1 h21,.v 3 10 (oF (0≥(a:Int)))]<|dw (fls [0,1] (Tr.an 2 (fls [3,4,5,6,7,8,9,10,11,12,13] Tr.nil))) h21 fun _ h23=>go [rd 4 1 1 0 1 h23]<|cw0 call36 opn_8 h23 fun _ h25=>⟨kd [],?_⟩
 refine g0<|dw (fls [1,2] (Tr.an 0 (Tr.an 3 (fls [4,5,6,7,8] Tr.nil)))) h25 fun _ h27=>go [rd 6 2 1 0 1 h27]<|cG call37 ut20_2_rules h27 ?_
 rintro v K _ (⟨r28,rfl,rfl⟩) h30
 have h31:=ap1 h30
 refine⟨kd [rd 0 2 2 0 1 h31],?_⟩
 refine actG ?_
 refine act_law (d:=43) (.tuple #[.func (Fn.func 80) #[] #[],.bool true]) kr rfl (law_lkH (t:=106) (z:=Value.nilFunc) (m:=Ot 40) (x:=Ot 42) (kv:=kI) (ve:=vF) kr underlying106 kyI kr 8 kr kr (j:=0) h31 rfl (.func (Fn.func 80) #[] #[]) 80 (gg_miss om (gg_hit rfl)) rfl) ?_
 refine⟨kd [],nxG ?_⟩
 have h32:=h31.h.h.h.h.h.h.t10
 refine go [rd 8 2 2 0 6 h31]<|cl6 call80 (ut21_8_open y i k a o B C D E F G p q H b I J L l M N O P s Q u S A c T U e om om om om om om om om om om) h32 fun _ h34=>sA [iV 4,iV 0] h34.x.t10 fun _ h37=>g0 ?_
 exact enR _ [rd 0 0 0 0 2 h37] (tk7 (sf6 (sf6 (sf6 (sf6 (sf6 (sf6 (sf9 h37.f.f.f.f.f.f.t10))))))))
theorem mdo_full(mb rg ar yc rq n m:Nat)(zz yy:Int)(q:Nat)(mq bt ba cp fi:Int)(tb wd qo lk:Nat)(D:List Ky)(nr:Nat)(x:Int)(L:List UInt8)(A:List Sl2)(ec at_ nx:Int)(S:Ts)(W:Wst)(hf0:0≤ -(nr:Int)+99999)(hf1:0≤(m:Int)-1)(hf2:0≤x)(hf3:0≤ -x+65535)(hf4:0≤(tagE L))(hf5:0≤ -(tagE L))(hf6:0≤mq-(S.R.length:Int)+(((nums S.R 3).length:Nat):Int)-1)(hf7:0≤(S.R.length:Int)-(((nums S.R 3).length:Nat):Int))(hf8:0≤ -(((inS 0 A 0).length:Nat):Int))(hf9:0≤ec)(hf10:0≤ -ec+1099511627776):HQ 7 [pV mb,.agg #[iV 8,iV 0,iV 1,iV x,iV 0,.string (St L)]] [Mch mb rg m D nr,Cl rg [pV ar,pV yc,pV rq,iV n,iV m,iV zz,iV yy,iV q,iV mq,iV bt,iV ba,iV cp,uV fi,pV tb,pV wd,pV qo,pV lk] 84,Ar0 ar n m A,Cy yc n m 0 ec 0 at_ nx ec,TW tb 256 S,Wd wd W,Cl qo [iV mq,.pointer none] 191] (.agg #[iV 4,iV 0]) [Mch mb rg m D (nr+1),Cl rg [pV ar,pV yc,pV rq,iV n,iV m,iV zz,iV yy,iV q,iV mq,iV bt,iV ba,iV cp,uV fi,pV tb,pV wd,pV qo,pV lk] 84,Ar0 ar n m A,Cy yc n m 0 ec 0 at_ nx ec,TW tb 256 S,Wd wd W,Cl qo [iV mq,.pointer none] 191]:=by
 refine hiS func7 ntmps7 fun g w0 R h0=> ?_
 obtain⟨p10,c11,p12,c13,rl14,hp15,hp16,h17⟩:=Mch_open h0
 have h18:sat g _ (Cl mb [iV m,pV rg,.slice p10 D.length c11,.slice p12 nr c13] 70::_):=h17
 refine g0<|nP 37 [iV 8,iV 0,iV 1,iV x,iV 0,.string (St L)] h18 (fun r19 _ h21=> ?_)
 refine nP 34 [iV 0,iV 0] h21 (fun r22 _ h24=> ?_)
 have h25:=h24.b.t12
 refine g0<|cl1 call17 (ut20_1_valid mb m rg p10 D.length c11 p12 nr c13) h25 fun _ h27=> ?_
 have h28:=h27.j.i.i.i.i.e.t12
 refine go [rd 3 1 2 0 6 h27]<|cl6 call18 (ut21_9_do mb x L m rg p10 D.length c11 p12 nr c13 ar yc rq n zz yy q mq bt ba cp fi tb wd qo lk A ec at_ nx S om om om om om om om om om om) h28 fun _ h30=>nP 34 [iV 0,iV 0] h30 (fun r31 _ h33=> ?_)
 refine sA [iV 4,iV 0] h33 fun _ h35=>g0<|dw (fls [0,1,2,3,4,5] (Tr.an 6 (Tr.an 7 (fls [8,9] (Tr.an 10 Tr.nil))))) h35 fun _ h37=>go [rd 4 4 1 3 1 h37,rd 4 5 0 0 2 h37]<|nG (fun q_=> .slice (some ⟨q_,0,none⟩) 1 1) 34 [iV 4,iV 0] h37 (fun r38 _ h40=>⟨kd [rd 0 4 2 3 1 h40],?_⟩)
 have h41:=h40.k.t14
 refine actG ?_
 refine aA 20 2 (Ot 17) (Ot 19) (.agg #[iV 0,iV 0]) p12 nr c13 1 1 (⟨r38,0,none⟩) 16 underlying68 h41 (fl eRz [(4,0)]) rfl (cell1 h41 rfl) (fl_one eRz_ok _) (nr+1) ?_
 intro p42 cap43 w44 h45
 have h46:sat g _ (Sl 34 2 p42 (nr+1) cap43 (fl eRz (rl14++ [(4,0)]))::_):=sJ h45
 obtain⟨hn47,hn48⟩:=sl_le h46
 refine⟨kd [],nxG ?_⟩
 have h49:=h46.c.t14
 refine g0<|sG [(3,.slice p42 (nr+1) cap43)] [iV m,pV rg,.slice p10 D.length c11,.slice p42 (nr+1) cap43] h49 fun _ h51=>⟨kd [],?_⟩
 have h52:=h51.i.t14
 refine go [rd 5 0 3 0 2 h51]<|sA [iV 4,iV 0] h52 fun w53 h54=>g0 ?_
 have h56:sat g _ (Mch mb rg m D (nr+1)::_):=Mch_close mb rg m D (nr+1) p10 c11 p42 cap43 (rl14++ [(4,0)]) om om h54.b.k.c.t14
 exact enR _ [rd 0 0 0 0 2 h54] (tk8 (sf7 (sf7 (sf7 (sf7 (sf7 (sf7 (sf7 (sf11 h56.h.j.i.i.i.i.f.t12)))))))))
theorem mdesc(mb rg ar yc rq n m:Nat)(zz yy:Int)(q:Nat)(mq bt ba cp fi:Int)(tb wd qo lk:Nat)(D:List Ky)(nr dk:Nat)(dg:Int)(i:Nat)(hD:D[i]? =some (1,(dk:Int),dg))(hf0:0≤(D.length:Int)-(i:Int)-1):HQ 8 [pV mb,iV i] [Mch mb rg m D nr] (.tuple #[.agg #[iV 1,iV dk,uV dg],iV 0]) [Mch mb rg m D nr]:=by
 refine hiS func8 ntmps8 fun g w0 R h0=> ?_
 obtain⟨p10,c11,p12,c13,rl14,hp15,hp16,h17⟩:=Mch_open h0
 have h18:sat g _ (Cl mb [iV m,pV rg,.slice p10 D.length c11,.slice p12 nr c13] 70::_):=h17
 refine g0<|nP 39 [iV 0,iV 0,uV 0] h18 (fun r19 _ h21=> ?_)
 have h22:=h21.a.t5
 refine g0<|cl1 call17 (ut20_1_valid mb m rg p10 D.length c11 p12 nr c13) h22 fun _ h24=> ?_
 obtain⟨b25,hp26⟩:=sl_ptr0 (j:=2) h24 rfl om
 refine go [.v 3 1 (oF ((i:Int)<0)),rd 3 7 0 2 1 h24,.v 3 9 (oF ((i:Int)≥(D.length:Int))),rd 5 3 0 2 1 h24,.s 5 5]<|lwP (.pointer (some ⟨b25,i*3,none⟩)) (liP (Ot 27) (Ot 28) p10 b25 0 (i:Int) D.length c11 underlying67 3 i hp26 (i*3)) ?_
 have h27:=h24.b.t5
 have hl28:=fl_n eO_ok dc h27
 have h29:=h27.b.t5
 refine go [.r 5 6 b25 (i*3) [iV 1,iV dk,uV dg] ⟨gvc 0 h27 rfl hp26 eO_ok 0 (iV 1) hD (i*3),gvc 0 h27 rfl hp26 eO_ok 1 (iV dk) hD (i*3+1),gvc 0 h27 rfl hp26 eO_ok 2 (uV dg) hD (i*3+2),trivial⟩]<|sA [iV 1,iV dk,uV dg] h29 fun w30 h31=>g0 ?_
 have h33:sat g _ (Mch mb rg m D nr::_):=Mch_close mb rg m D nr p10 c11 p12 c13 rl14 hp15 hp16 h31.c.b.c.t5
 exact enR (.tuple #[.agg #[iV 1,iV dk,uV dg],iV 0]) [rd 0 0 0 0 3 h31] h33.B.t2
theorem ut21_10_World(d f i j k l:Nat)(m o:Int)(p:Nat)(q s t u x:Int)(y c z A:Nat)(e:Wst):HT prog 19 [pV d] [Cl d [pV i,pV j,pV k,iV l,iV f,iV m,iV o,iV p,iV q,iV s,iV t,iV u,uV x,pV y,pV c,pV z,pV A] 84,Wd c e] (fun v K=> ∃b12:Nat,v=pV b12∧K= [Cl d [pV i,pV j,pV k,iV l,iV f,iV m,iV o,iV p,iV q,iV s,iV t,iV u,uV x,pV y,pV c,pV z,pV A] 84,Wd c e,Wd b12 e]):=by
 refine hiS func19 ntmps19 fun g w0 R h0=>g0<|cl1 call23 (ut15_6_valid d i j k l f m o p q s t u x y c z A) h0 fun _ h11=> ?_
 have h13:=h11.a.t3
 refine go [rd 3 3 0 14 1 h11]<|cP call39 (wcopy_ht c e) h13 ?_
 rintro v K _ (⟨b12,rfl,rfl⟩) h15
 have h16:=ap2 h15
 refine g0 ?_
 exact en (pV b12) [] ⟨_,_,rfl,⟨b12,rfl,rfl⟩,h16.b.t4⟩
theorem mledg(mb rg ar yc rq n m:Nat)(zz yy:Int)(q:Nat)(mq bt ba cp fi:Int)(tb wd qo lk:Nat)(D:List Ky)(nr:Nat)(W:Wst):HT prog 11 [pV mb] [Mch mb rg m D nr,Cl rg [pV ar,pV yc,pV rq,iV n,iV m,iV zz,iV yy,iV q,iV mq,iV bt,iV ba,iV cp,uV fi,pV tb,pV wd,pV qo,pV lk] 84,Wd wd W] (fun v K=> ∃p:Option Addr,∃c:Nat,v= .slice p W.T.length c∧K= [Mch mb rg m D nr,Cl rg [pV ar,pV yc,pV rq,iV n,iV m,iV zz,iV yy,iV q,iV mq,iV bt,iV ba,iV cp,uV fi,pV tb,pV wd,pV qo,pV lk] 84,Wd wd W,Sl 50 6 p W.T.length c (fl eAt W.T)]):=by
 refine hiS func11 ntmps11 fun g w0 R h0=> ?_
 obtain⟨p10,c11,p12,c13,rl14,hp15,hp16,h17⟩:=Mch_open h0
 have h18:sat g _ (Cl mb [iV m,pV rg,.slice p10 D.length c11,.slice p12 nr c13] 70::_):=h17
 refine g0<|cl1 call17 (ut20_1_valid mb m rg p10 D.length c11 p12 nr c13) h18 fun _ h20=> ?_
 have h22:=h20.d.d.t6
 refine go [rd 3 3 0 1 1 h20]<|cP call19 (ut21_10_World rg m ar yc rq n zz yy q mq bt ba cp fi tb wd qo lk W) h22 ?_
 rintro v K _ (⟨b21,rfl,rfl⟩) h24
 refine cP call20 (wledg_ht b21 W) ((ap3 h24).b.t7) ?_
 rintro v K _ (⟨b26,rfl,rfl⟩) h29
 refine cP call21 (lgall_ht b26 W.T) ((ap2 h29).a.t8) ?_
 rintro v K w34 (⟨p31,c32,rfl,rfl⟩) h35
 have h36:=ap2 h35
 refine g0 ?_
 have h38:sat g _ (Mch mb rg m D nr::_):=Mch_close mb rg m D nr p10 c11 p12 c13 rl14 hp15 hp16 h36.x.x.x.t9
 exact en (.slice p31 W.T.length c32) [] ⟨_,_,rfl,⟨p31,c32,rfl,rfl⟩,(tk5 (sf4 (sf4 (sf4 (sf4 (sf6 h38.e.e.b.t7))))))⟩
theorem mcnew(n m:Nat)(zz yy:Int)(q:Nat)(mq bt ba cp fi:Int)(hf0:0≤(n:Int)-1)(hf1:0≤ -(n:Int)+256)(hf2:0≤(m:Int)-1)(hf3:0≤ -(m:Int)+4)(hf4:0≤zz-1)(hf5:0≤ -zz+64)(hf6:0≤yy-1)(hf7:0≤ -yy+64)(hf8:0≤(q:Int)-1)(hf9:0≤ -(q:Int)+64)(hf10:0≤mq-1)(hf11:0≤ -mq+256)(hf12:0≤bt-1)(hf13:0≤ -bt+64)(hf14:0≤ba-1)(hf15:0≤cp-ba)(hf16:0≤ -cp+1048576)(hf17:0≤fi-1)(hf18:0≤ -fi+4294967295):HT prog 6 [.agg #[iV n,iV m,iV zz,iV yy,iV q,iV mq,iV bt,iV ba,iV cp,uV fi]] [] (fun v K=> ∃mb:Nat,∃rg:Nat,∃ar:Nat,∃yc:Nat,∃rq:Nat,∃tb:Nat,∃wd:Nat,∃qo:Nat,∃lk:Nat,v= .tuple #[pV mb,iV 0]∧K= [Mch mb rg m [] 0,Cl rg [pV ar,pV yc,pV rq,iV n,iV m,iV zz,iV yy,iV q,iV mq,iV bt,iV ba,iV cp,uV fi,pV tb,pV wd,pV qo,pV lk] 84,Ar0 ar n m (List.replicate n (0,fi)),Cy yc n m 0 0 0 0 (n:Int) 0,Rq0 rq q 0,TW tb 256 (⟨List.replicate 256 (0,fi),[],[]⟩),Wd wd (wnew fi),Cl qo [iV mq,.pointer none] 191,Rpo lk 0 []]):=by
 refine hiS func6 ntmps6 fun g w0 R h0=>g0<|nP 26 [iV n,iV m,iV zz,iV yy,iV q,iV mq,iV bt,iV ba,iV cp,uV fi] h0 (fun r10 _ h12=> ?_)
 refine go [rd 1 0 0 0 10 h12]<|cP call16 (rgnew n m zz yy q mq bt ba cp fi om om om om om om om om om om om om om om om om om om om) h12 ?_
 rintro v K w21 (⟨b13,ar14,yc15,rq16,tb17,wd18,qo19,lk20,rfl,rfl⟩) h22
 have h23:sat g _ (Cl b13 [pV ar14,pV yc15,pV rq16,iV n,iV m,iV zz,iV yy,iV q,iV mq,iV bt,iV ba,iV cp,uV fi,pV tb17,pV wd18,pV qo19,pV lk20] 84::_):=h22
 refine go [rd 4 1 8 1 1 h23]<|nP 70 [iV m,pV b13,.slice none 0 0,.slice none 0 0] h23 (fun r24 w25 h26=> ?_)
 refine g0 ?_
 have h27:sat g _ (Sl 34 2 none 0 0 (fl eRz [])::_):=sl_nil 34 2 h26
 have h28:sat g _ (Sl 39 3 none 0 0 (fl eO [])::_):=sl_nil 39 3 h27
 have h30:sat g _ (Mch r24 b13 m [] 0::_):=Mch_close r24 b13 m [] 0 none 0 none 0 [] om dc h28.b.t13
 exact en (.tuple #[pV r24,iV 0]) [] ⟨_,_,rfl,⟨r24,b13,ar14,yc15,rq16,tb17,wd18,qo19,lk20,rfl,rfl⟩,h30.J.t10⟩
section
def akS(fi:Int)(gs k a:Nat):Sl2:=if a<k/gs then (2,4294967295) else if a=k/gs then (0,fi+((k%gs:Nat):Int)) else (0,fi)
def AK(N:Nat)(fi:Int)(gs k:Nat):List Sl2:=(List.range N).map (akS fi gs k)
structure Gn (fi:Int) (gs:Nat):Prop where
 lo:1≤gs
 hi:gs≤3
 fi:fi+(gs:Int)=4294967296
theorem ak_len(N:Nat)(fi:Int)(gs k:Nat):(AK N fi gs k).length=N:=by unfold AK;rw[List.length_map,List.length_range]
theorem ak_get{N:Nat}{fi:Int}{gs k a:Nat}(h:a<N):(AK N fi gs k)[a]? =some (akS fi gs k a):=by
 unfold AK
 rw[List.getElem?_map,List.getElem?_range h]
 rfl
theorem inS0_first: ∀(A:List Sl2) (k j:Nat) (g:Int),A[j]? =some (0,g)→(∀a x,a<j→A[a]? =some x→x.1≠0)→ ∃T,inS 0 A k=(k+j,g)::T
 | [],k,j,g,h,_=>by simp at h
 |s::A,k,0,g,h,_=>by
  rw[List.getElem?_cons_zero] at h
  obtain rfl:=Option.some.inj h
  exact⟨inS 0 A (k+1),by simp[inS]⟩
 |s::A,k,j+1,g,h,hn=>by
  have h0:s.1≠0:=hn 0 s om rfl
  obtain⟨T,hT⟩:=inS0_first A (k+1) j g (by simpa using h) (fun a x ha hx=>hn (a+1) x om (by simpa using hx))
  refine⟨T,?_⟩
  simp only[inS,if_neg h0]
  rw[hT,show k+1+j=k+(j+1) from by omega]
theorem inS0_none: ∀(A:List Sl2) (k:Nat),(∀x∈A,x.1≠0)→inS 0 A k= []
 | [],_,_=>rfl
 |s::A,k,h=>by
  simp only[inS,if_neg (h s (List.mem_cons_self ..))]
  exact inS0_none A (k+1) fun x hx=>h x (List.mem_cons_of_mem _ hx)
section
variable {N : Nat} {fi : Int} {gs k : Nat}
theorem ak_zero(hg:Gn fi gs):AK N fi gs 0=List.replicate N (0,fi):=by
 rw[List.eq_replicate_iff]
 refine⟨ak_len ..,fun x hx=> ?_⟩
 unfold AK at hx
 obtain⟨a,_,rfl⟩:=List.mem_map.1 hx
 unfold akS
 rw[Nat.zero_div,Nat.zero_mod,if_neg om]
 split<;>simp
theorem ak_in(hk:k/gs<N): ∃T,inS 0 (AK N fi gs k) 0=(k/gs,fi+((k%gs:Nat):Int))::T:=by
 obtain⟨T,hT⟩:=inS0_first (AK N fi gs k) 0 (k/gs) (fi+((k%gs:Nat):Int)) (by rw[ak_get hk];unfold akS;rw[if_neg om,if_pos rfl]) (fun a x ha hx=>by
  rw[ak_get om] at hx
  obtain rfl:=Option.some.inj hx
  unfold akS
  rw[if_pos ha]
  decide)
 exact⟨T,by rw[hT,Nat.zero_add]⟩
theorem ak_free(hk:k/gs<N):freeS (AK N fi gs k)=some (k/gs,fi+((k%gs:Nat):Int)):=by
 obtain⟨T,hT⟩:=ak_in (N:=N) (fi:=fi) hk
 unfold freeS
 rw[hT]
 rfl
theorem ak_room(hk:k/gs<N):1≤(inS 0 (AK N fi gs k) 0).length:=by
 obtain⟨T,hT⟩:=ak_in (N:=N) (fi:=fi) hk
 rw[hT,List.length_cons]
 omega
theorem ak_full(hk:N≤k/gs):inS 0 (AK N fi gs k) 0= []:=inS0_none _ _ fun x hx=>by
 unfold AK at hx
 obtain⟨a,ha,rfl⟩:=List.mem_map.1 hx
 have:=List.mem_range.1 ha
 unfold akS
 rw[if_pos om]
 decide
theorem ak_take(hk:k/gs<N):takeA (AK N fi gs k)=(AK N fi gs k).set (k/gs) (1,fi+((k%gs:Nat):Int)):=(free_at (ak_free hk)).2.1
theorem ak_shut(hg:Gn fi gs):akS fi gs (k+1) (k/gs)=if fi+((k%gs:Nat):Int)<4294967295 then (0,fi+((k%gs:Nat):Int)+1) else (2,fi+((k%gs:Nat):Int)):=by
 have h1:=hg.lo
 have h2:=hg.hi
 have h3:=hg.fi
 unfold akS
 obtain rfl |rfl |rfl:gs=1∨gs=2∨gs=3:=by omega
 all_goals
  (repeat' split)<;>first|(exfalso;omega)|(refine Prod.ext ?_ ?_<;>simp only[]<;>omega)
theorem ak_same(hg:Gn fi gs){a:Nat}(ha:a≠k/gs):akS fi gs (k+1) a=akS fi gs k a:=by
 have h1:=hg.lo
 have h2:=hg.hi
 have h3:=hg.fi
 unfold akS
 obtain rfl |rfl |rfl:gs=1∨gs=2∨gs=3:=by omega
 all_goals
  (repeat' split)<;>first|(exfalso;omega)|rfl |(refine Prod.ext ?_ ?_<;>simp only[]<;>omega)
theorem ak_set(hg:Gn fi gs):(AK N fi gs k).set (k/gs) (akS fi gs (k+1) (k/gs))=AK N fi gs (k+1):=by
 apply List.ext_getElem?
 intro a
 rw[List.getElem?_set]
 by_cases h:k/gs=a
 · subst h
   rw[if_pos rfl,ak_len]
   by_cases hk:k/gs<N
   · rw[if_pos hk,ak_get hk]
   · rw[if_neg hk,List.getElem?_eq_none (by rw[ak_len];omega)]
 · rw[if_neg h]
   by_cases ha:a<N
   · rw[ak_get ha,ak_get ha,ak_same hg (Ne.symm h)]
   · rw[List.getElem?_eq_none (by rw[ak_len];omega),List.getElem?_eq_none (by rw[ak_len];omega)]
theorem ak_next(hg:Gn fi gs)(hk:k/gs<N):giveA (takeA (AK N fi gs k)) (k/gs) (fi+((k%gs:Nat):Int))=AK N fi gs (k+1):=by
 rw[ak_take hk,←ak_set hg,ak_shut hg]
 unfold giveA
 split<;>rw[List.set_set]
end
def oK(fi:Int)(gs i:Nat):Ky:=(1,((i/gs:Nat):Int),fi+((i%gs:Nat):Int))
theorem oK_inj{fi:Int}{gs i j:Nat}(hg:Gn fi gs)(h:oK fi gs i=oK fi gs j):i=j:=by
 have h1:=hg.lo
 have h2:=hg.hi
 unfold oK at h
 simp only[Prod.mk.injEq,true_and] at h
 obtain⟨h3,h4⟩:=h
 obtain rfl |rfl |rfl:gs=1∨gs=2∨gs=3:=by omega
 all_goals omega
def rK(fi:Int)(gs st why i:Nat):Rs:=⟨oK fi gs i,st,why,0,0,[120]⟩
def RK(fi:Int)(gs k:Nat):List Rs:=(List.range k).map (rK fi gs 3 1)
theorem rk_len(fi:Int)(gs k:Nat):(RK fi gs k).length=k:=by unfold RK;rw[List.length_map,List.length_range]
theorem rk_next(fi:Int)(gs k:Nat):RK fi gs k++ [rK fi gs 3 1 k]=RK fi gs (k+1):=by
 unfold RK
 rw[List.range_succ,List.map_append]
 rfl
def SK(fi:Int)(gs k:Nat):Ts:=⟨AK 256 fi gs k,[],RK fi gs k⟩
def SO(fi:Int)(gs k:Nat)(h:Int×Int):Ts:=⟨takeA (AK 256 fi gs k),[(((k/gs:Nat):Int),⟨oK fi gs k,(k:Int)+1,h⟩)],RK fi gs k++ [rK fi gs 1 0 k]⟩
def SC(fi:Int)(gs k:Nat):Ts:=⟨AK 256 fi gs (k+1),[],RK fi gs k++ [rK fi gs 1 0 k]⟩
def SD(fi:Int)(gs k:Nat):Ts:=⟨AK 256 fi gs (k+1),[],RK fi gs k++ [rK fi gs 2 1 k]⟩
end
section
theorem allE_nil:allE []= []:=by
 have h: ∀e,e∉allE []:=fun e he=>by
  obtain⟨k,_,h⟩:=mem_allE.1 he
  cases h
 exact List.eq_nil_iff_forall_not_mem.2 h
theorem descs_nilE(v:Int):descs [] v= []:=by unfold descs;rw[allE_nil];rfl
theorem tag_x:tagE [120]=0:=by kernel_rfl
section
variable {fi : Int} {gs k : Nat} {h : Int × Int}
theorem gn_z(hg:Gn fi gs):1≤fi∧fi+((k%gs:Nat):Int)≤4294967295∧1≤fi+((k%gs:Nat):Int)∧(0:Int)≤((k/gs:Nat):Int):=by
 have h9:(0:Int)≤((k/gs:Nat):Int):=Int.natCast_nonneg _
 have h1:=hg.lo
 have h2:=hg.hi
 have h3:=hg.fi
 have h4:k%gs<gs:=Nat.mod_lt _ om
 omega
theorem no_out(hg:Gn fi gs): ¬hasO (RK fi gs k) (oK fi gs k):=fun⟨r,hr,ho⟩=>by
 unfold RK at hr
 obtain⟨i,hi,rfl⟩:=List.mem_map.1 hr
 have h1:=List.mem_range.1 hi
 have h2:=oK_inj hg (show oK fi gs i=oK fi gs k from ho)
 omega
theorem newK_ok(hg:Gn fi gs)(hk:k/gs<8):newE (oK fi gs k) [120]=0:=by
 have h1:=gn_z (k:=k) hg
 unfold newE resE oK
 have h2:posP 1 ((k/gs:Nat):Int) (fi+((k%gs:Nat):Int)) 1 0 0 0:=⟨by omega,.inl ⟨rfl,rfl,rfl,rfl⟩⟩
 exact(if_pos h2).trans tag_x
theorem sk_opnE(hg:Gn fi gs)(hk:k/gs<8)(hk2:k<2000)(ho:objH h):topE (SK fi gs k) (oK fi gs k) [120] h=0:=by
 unfold topE
 rw[if_neg (by rw[newK_ok hg hk];decide),if_neg (by intro h1;exact h1 ho),if_neg ?_,if_neg ?_]
 · rintro(h1|h1)
   · have:(SK fi gs k).R.length=k:=rk_len ..
     omega
   · have:freeS (SK fi gs k).A=some _:=ak_free om
     rw[this] at h1
     cases h1
 · rintro(h1|⟨e,he,_⟩)
   · exact no_out hg h1
   · rw[show (SK fi gs k).E= [] from rfl,allE_nil] at he
     cases he
theorem sk_opnD(hg:Gn fi gs)(hk:k/gs<8)(hk2:k<2000)(ho:objH h):opnD (SK fi gs k) (oK fi gs k) [120] h=oK fi gs k:=by
 unfold opnD
 rw[if_pos (sk_opnE hg hk hk2 ho)]
 unfold addD
 rw[show freeS (SK fi gs k).A=some _ from ak_free om]
 rfl
theorem sk_opnS(hg:Gn fi gs)(hk:k/gs<8)(hk2:k<2000)(ho:objH h):opnS (SK fi gs k) (oK fi gs k) [120] h=SO fi gs k h:=by
 unfold opnS
 rw[if_pos (sk_opnE hg hk hk2 ho)]
 unfold addS
 simp only[show freeS (SK fi gs k).A=some (k/gs,fi+((k%gs:Nat):Int)) from ak_free om]
 unfold SO
 rw[ak_take om,show (SK fi gs k).R.length=k from rk_len ..]
 rfl
theorem so_at:gget (SO fi gs k h).E (oK fi gs k).2.1=some ⟨oK fi gs k,(k:Int)+1,h⟩:=by
 unfold SO
 simp only[gget]
 exact if_pos rfl
theorem ok_good(hg:Gn fi gs)(hk:k/gs<8):goodD (oK fi gs k):=by
 have h1:=gn_z (k:=k) hg
 unfold goodD oK
 simp only[]
 omega
theorem so_fnd(hg:Gn fi gs)(hk:k/gs<8):fndE (SO fi gs k h) (oK fi gs k)=0∧fndX (SO fi gs k h) (oK fi gs k)=⟨oK fi gs k,(k:Int)+1,h⟩:=fndX_ok (ok_good hg hk) so_at rfl
theorem so_num(hg:Gn fi gs)(hk:k/gs<8):(fndX (SO fi gs k h) (oK fi gs k)).num=(k:Int)+1:=by rw[(so_fnd hg hk).2]
theorem so_drop(hg:Gn fi gs)(hk:k/gs<8):dropS (SO fi gs k h) (oK fi gs k)=SC fi gs k:=by
 unfold dropS SC
 have h1:(SO fi gs k h).A=takeA (AK 256 fi gs k):=rfl
 have h2:(oK fi gs k).2.1.toNat=k/gs:=Int.toNat_natCast _
 have h3:(oK fi gs k).2.2=fi+((k%gs:Nat):Int):=rfl
 rw[h1,h2,h3,ak_next hg om]
 have h4:gdel (SO fi gs k h).E (oK fi gs k).2.1= []:=by
  unfold SO
  simp only[gdel]
  exact if_pos rfl
 rw[h4]
 rfl
theorem so_cls(hg:Gn fi gs)(hk:k/gs<8):clsS (SO fi gs k h) (oK fi gs k)=SC fi gs k∧clsL (SO fi gs k h) (oK fi gs k)=true:=by
 refine⟨?_,?_⟩
 · unfold clsS
   rw[if_pos (so_fnd hg hk).1,so_drop hg hk]
 · unfold clsL
   rw[decide_eq_true]
   refine⟨(so_fnd hg hk).1,?_⟩
   rw[so_drop hg hk,show (SC fi gs k).E= [] from rfl,descs_nilE]
   rfl
theorem sc_len:(SC fi gs k).R.length=k+1:=by
 unfold SC
 rw[List.length_append,rk_len]
 rfl
theorem sc_get:getR (SC fi gs k) ((k:Int)+1)=rK fi gs 1 0 k∧nE (SC fi gs k) ((k:Int)+1)=0:=by
 refine⟨?_,?_⟩
 · unfold getR
   rw[if_pos om,show ((k:Int)+1-1).toNat=k from by omega]
   unfold SC
   rw[List.getElem?_append_right (by rw[rk_len];omega),rk_len,Nat.sub_self]
   rfl
 · unfold nE
   rw[if_pos (by rw[sc_len];omega)]
theorem rk_res(hg:Gn fi gs)(hk:k/gs<8):resR (rK fi gs 2 1 k)=0∧resR (rK fi gs 3 1 k)=0:=by
 have h1:=gn_z (k:=k) hg
 unfold resR resE rK oK
 have h2:posP 1 ((k/gs:Nat):Int) (fi+((k%gs:Nat):Int)) 2 1 0 0:=⟨by omega,.inr (.inl ⟨rfl,by omega,by omega,by omega,by omega,by omega,by omega⟩)⟩
 have h3:posP 1 ((k/gs:Nat):Int) (fi+((k%gs:Nat):Int)) 3 1 0 0:=⟨by omega,.inr (.inr ⟨.inl rfl,by omega,by omega,by omega,by omega,rfl⟩)⟩
 exact⟨(if_pos h2).trans tag_x,(if_pos h3).trans tag_x⟩
theorem sc_set(hg:Gn fi gs)(hk:k/gs<8):setE (SC fi gs k) ((k:Int)+1) (rK fi gs 2 1 k)=0∧setS (SC fi gs k) ((k:Int)+1) (rK fi gs 2 1 k)=SD fi gs k:=by
 have he:setE (SC fi gs k) ((k:Int)+1) (rK fi gs 2 1 k)=0:=by
  unfold setE
  rw[if_neg (by rw[sc_get.2];decide),if_neg (by rw[(rk_res hg hk).1];decide),if_neg (by rw[sc_get.1];rintro(h1|h1)<;>exact h1 rfl),if_neg ?_]
  rintro⟨_,h1⟩
  rw[show (SC fi gs k).E= [] from rfl,descs_nilE] at h1
  exact absurd h1 dc
 refine⟨he,?_⟩
 unfold setS
 rw[if_pos he,show ((k:Int)+1-1).toNat=k from by omega]
 unfold SC SD
 simp only[]
 rw[List.set_append_right _ _ (by rw[rk_len];omega),rk_len,Nat.sub_self]
 rfl
end
end
section
def XK(fi:Int)(gs k:Nat):Xs:=(AK 64 fi gs k).map fun s=>(s.1,s.2,0)
def TK(fi:Int)(gs k:Nat):List At:=(List.range k).map fun i=>⟨0,oK fi gs i,1,1⟩
def WK(fi:Int)(gs k:Nat):Wst:=⟨XK fi gs k,List.replicate 64 (0,fi,0),List.replicate 64 (0,fi,0),[],TK fi gs k,0⟩
def WR(fi:Int)(gs k:Nat)(x:Int):Wst:=⟨(XK fi gs k).set (k/gs) (1,fi+((k%gs:Nat):Int),x),List.replicate 64 (0,fi,0),List.replicate 64 (0,fi,0),[],TK fi gs k,0⟩
theorem as_xk(fi:Int)(gs k:Nat):As (XK fi gs k)=AK 64 fi gs k:=by
 unfold As XK
 rw[List.map_map]
 exact List.map_id _
theorem tk_len(fi:Int)(gs k:Nat):(TK fi gs k).length=k:=by unfold TK;rw[List.length_map,List.length_range]
theorem tk_next(fi:Int)(gs k:Nat):TK fi gs k++ [⟨0,oK fi gs k,1,1⟩]=TK fi gs (k+1):=by
 unfold TK
 rw[List.range_succ,List.map_append]
 rfl
section
variable {fi : Int} {gs k : Nat} {x : Int}
theorem wk_zero(hg:Gn fi gs):wnew fi=WK fi gs 0:=by
 unfold wnew WK XK
 rw[ak_zero hg,List.map_replicate]
 rfl
theorem xk_fre(hk:k/gs<64):fre (XK fi gs k)=some (k/gs,fi+((k%gs:Nat):Int)):=by
 have h:=ak_free (N:=64) (fi:=fi) hk
 unfold freeS at h
 unfold fre
 rw[as_xk]
 exact h
theorem wk_acqE(hk:k/gs<8)(hx:0≤x∧x≤65535):acqE (WK fi gs k) 1 x=0:=by
 have h1:godP 1 x:= .inl ⟨rfl,hx.1,hx.2⟩
 have h2:grwE (WK fi gs k) 1 x=0:=by
  unfold grwE
  rw[if_neg (by rintro⟨h,_⟩;cases h),if_neg (by rintro⟨h,_⟩;cases h),if_neg ?_]
  rw[show (WK fi gs k).tab 1=XK fi gs k from rfl,xk_fre om]
  intro h
  cases h
 unfold acqE
 rw[if_neg (fun h=>h h1),if_neg (by rw[h2];decide)]
 rfl
theorem wk_acqO(hk:k/gs<8)(hx:0≤x∧x≤65535):acqO (WK fi gs k) 1 x=oK fi gs k:=by
 unfold acqO
 rw[if_pos (wk_acqE hk hx),show (WK fi gs k).tab 1=XK fi gs k from rfl]
 unfold nam
 rw[xk_fre om]
 rfl
theorem wk_acqS(hk:k/gs<8)(hx:0≤x∧x≤65535):acqS (WK fi gs k) 1 x=WR fi gs k x:=by
 have h0:=wk_acqE (fi:=fi) hk hx
 have h1:godP 1 x:= .inl ⟨rfl,hx.1,hx.2⟩
 have h2:grwE (WK fi gs k) 1 x=0:=by
  unfold acqE at h0
  rw[if_neg (fun h=>h h1)] at h0
  by_cases h:grwE (WK fi gs k) 1 x=0
  · exact h
  · rw[if_pos h] at h0
    exact h0
 unfold acqS
 rw[if_neg (fun h=>h.elim (fun h=>h h1) (fun h=>h h2)),if_pos h0,show (WK fi gs k).tab 1=XK fi gs k from rfl]
 unfold grw
 rw[xk_fre om]
 rfl
theorem ok_kgood(hg:Gn fi gs)(hk:k/gs<8):KGood (oK fi gs k):=by
 have h1:=gn_z (k:=k) hg
 unfold KGood oK
 simp only[]
 omega
theorem wr_relE(hg:Gn fi gs)(hk:k/gs<8)(hk2:k<10000):relE (WR fi gs k x) (oK fi gs k) 1=0:=by
 unfold relE
 rw[if_neg (fun h=>h.elim (fun h=>h (ok_kgood hg hk)) (fun h=>by omega)),if_neg ?_,if_neg (by rw[show (WR fi gs k x).T=TK fi gs k from rfl,tk_len];omega)]
 intro h
 refine h ⟨ok_kgood hg hk,?_⟩
 show (As ((XK fi gs k).set (k/gs) (1,fi+((k%gs:Nat):Int),x)))[((k/gs:Nat):Int).toNat]? =_
 rw[Int.toNat_natCast,as_set,List.getElem?_set_self (by rw[as_xk,ak_len];omega)]
 rfl
theorem wr_relA(hg:Gn fi gs)(hk:k/gs<8)(hk2:k<10000):relA (WR fi gs k x) (oK fi gs k) 1=1:=by
 unfold relA
 rw[if_pos (wr_relE hg hk hk2)]
 rfl
theorem wr_relS(hg:Gn fi gs)(hk:k/gs<8)(hk2:k<10000):relS (WR fi gs k x) (oK fi gs k) 1=WK fi gs (k+1):=by
 unfold relS
 rw[if_neg (by rw[wr_relE hg hk hk2];decide),if_pos (show (WR fi gs k x).q.headD 1=1 from rfl)]
 have h1:giv ((WR fi gs k x).tab (oK fi gs k).1) (oK fi gs k)=XK fi gs (k+1):=by
  show ((XK fi gs k).set (k/gs) (1,fi+((k%gs:Nat):Int),x)).set ((k/gs:Nat):Int).toNat (shut (fi+((k%gs:Nat):Int)))=_
  rw[Int.toNat_natCast,List.set_set]
  unfold XK
  rw[←ak_set hg,List.map_set,ak_shut hg]
  unfold shut
  split<;>rfl
 show Wst.mk (giv ((WR fi gs k x).tab (oK fi gs k).1) (oK fi gs k)) _ _ _ _ _=_
 rw[h1]
 unfold WK
 rw[←tk_next]
 rfl
theorem numsT_none{R:List Rs}{st:Int}: ∀k,k≤R.length→(∀i r,i<k→R[i]? =some r→r.st≠st)→numsT R st k= []
 |0,_,_=>rfl
 |k+1,hk,h=>by
  have hr:R[k]? =some R[k]:=List.getElem?_eq_getElem hk
  rw[←numsT_no hr (h k _ om hr)]
  exact numsT_none k om fun i r hi hr=>h i r om hr
theorem rk_at{i:Nat}(hi:i<k)(T:List Rs):(RK fi gs k++T)[i]? =some (rK fi gs 3 1 i):=by
 rw[List.getElem?_append_left (by rw[rk_len];exact hi)]
 unfold RK
 rw[List.getElem?_map,List.getElem?_range hi]
 rfl
theorem sd_len:(SD fi gs k).R.length=k+1:=by
 unfold SD
 rw[List.length_append,rk_len]
 rfl
theorem sd_last:(SD fi gs k).R[k]? =some (rK fi gs 2 1 k):=by
 unfold SD
 rw[List.getElem?_append_right (by rw[rk_len];omega),rk_len,Nat.sub_self]
 rfl
theorem sd_nums:nums (SD fi gs k).R 2= [(k:Int)+1]:=by
 unfold nums
 rw[sd_len,←numsT_go (st:=2) sd_last rfl,numsT_none k (by rw[sd_len];omega) ?_]
 · rfl
 · intro i r hi hr
   rw[show (SD fi gs k).R=RK fi gs k++ [rK fi gs 2 1 k] from rfl,rk_at hi] at hr
   obtain rfl:=Option.some.inj hr
   show (3:Int)≠2
   decide
theorem sk_nums3:(nums (SK fi gs k).R 3).length=k:=by
 have h: ∀j,j≤k→(numsT (RK fi gs k) 3 j).length=j:=by
  intro j
  induction j with
  |zero=>intro _;rfl
  |succ j ih=>
   intro hj
   have hr:(RK fi gs k)[j]? =some (rK fi gs 3 1 j):=by have:=rk_at (fi:=fi) (gs:=gs) (k:=k) (i:=j) om [];rwa [List.append_nil] at this
   rw[numsT_one hr,ih om]
   show j+(if (3:Int)=3 then 1 else 0)=j+1
   rw[if_pos rfl]
 unfold nums
 rw[show (SK fi gs k).R=RK fi gs k from rfl,rk_len]
 exact h k (Nat.le_refl _)
theorem sd_get:getR (SD fi gs k) ((k:Int)+1)=rK fi gs 2 1 k∧nE (SD fi gs k) ((k:Int)+1)=0:=by
 refine⟨?_,?_⟩
 · unfold getR
   rw[if_pos om,show ((k:Int)+1-1).toNat=k from by omega,sd_last]
   rfl
 · unfold nE
   rw[if_pos (by rw[sd_len];omega)]
theorem sd_due{bt:Int}(hb:1≤bt):dueB (SD fi gs k) 0 bt= [(k:Int)+1]:=by
 unfold dueB srtB
 rw[sd_nums]
 show (List.takeWhile (fun n=>decide (nxR (SD fi gs k) n≤0)) [(k:Int)+1]).take bt.toNat=_
 have h1:nxR (SD fi gs k) ((k:Int)+1)=0:=by unfold nxR;rw[sd_get.1];rfl
 rw[List.takeWhile_cons,h1]
 show ([(k:Int)+1]).take bt.toNat=_
 exact List.take_of_length_le (by simp only[List.length_cons,List.length_nil];omega)
theorem sd_setE(hg:Gn fi gs)(hk:k/gs<8):setS (SD fi gs k) ((k:Int)+1) (rK fi gs 3 1 k)=SK fi gs (k+1):=by
 have he:setE (SD fi gs k) ((k:Int)+1) (rK fi gs 3 1 k)=0:=by
  unfold setE
  rw[if_neg (by rw[sd_get.2];decide),if_neg (by rw[(rk_res hg hk).2];decide),if_neg (by rw[sd_get.1];rintro(h1|h1)<;>exact h1 rfl),if_neg ?_]
  rintro⟨_,h1⟩
  rw[show (SD fi gs k).E= [] from rfl,descs_nilE] at h1
  exact absurd h1 dc
 unfold setS
 rw[if_pos he,show ((k:Int)+1-1).toNat=k from by omega]
 unfold SD SK
 simp only[]
 rw[List.set_append_right _ _ (by rw[rk_len];omega),rk_len,Nat.sub_self,←rk_next]
 rfl
theorem sd_runok(c:Cf)(hg:Gn fi gs)(hk:k/gs<8)(hk2:k<10000):RunOk c 0 (SD fi gs k,WR fi gs k x) [(k:Int)+1]:=fun i n hi=>by
 cases i with
 |zero=>
  rw[List.getElem?_cons_zero] at hi
  obtain rfl:=Option.some.inj hi
  rw[stB_zero]
  refine⟨sd_get.2,?_,?_⟩
  · rw[sd_get.1];rfl
  · rw[sd_get.1]
    exact wr_relE hg hk hk2
 |succ i=>simp at hi
theorem sd_run(c:Cf)(hg:Gn fi gs)(hk:k/gs<8)(hk2:k<10000):runB c 0 (SD fi gs k,WR fi gs k x) [(k:Int)+1]=(SK fi gs (k+1),WK fi gs (k+1)):=by
 show stpB c 0 (SD fi gs k,WR fi gs k x) ((k:Int)+1)=_
 unfold stpB
 simp only[sd_get.1]
 rw[show (rK fi gs 2 1 k).out=oK fi gs k from rfl,show (rK fi gs 2 1 k).why=1 from rfl,wr_relA hg hk hk2,wr_relS hg hk hk2,if_pos (by unfold triE;rw[if_neg (by rintro⟨h,_⟩;cases h)])]
 rw[show triR (rK fi gs 2 1 k) 1 0 (wtOf c (rK fi gs 2 1 k))=rK fi gs 3 1 k from rfl,sd_setE hg hk]
theorem sd_ats(c:Cf)(hg:Gn fi gs)(hk:k/gs<8)(hk2:k<10000):atsB c 0 (SD fi gs k,WR fi gs k x) [(k:Int)+1]= [⟨0,oK fi gs k,1,1⟩]:=by
 show [attB 0 (stB c 0 (SD fi gs k,WR fi gs k x) [(k:Int)+1] 0) (([(k:Int)+1]).getD 0 0)]=_
 rw[stB_zero]
 unfold attB
 rw[show ([(k:Int)+1]).getD 0 0=(k:Int)+1 from rfl]
 simp only[sd_get.1]
 rw[show (rK fi gs 2 1 k).out=oK fi gs k from rfl,show (rK fi gs 2 1 k).why=1 from rfl,wr_relA hg hk hk2]
end
end
section
section
variable {α β : Type} [DecidableEq α] {E : List (α × β)} {k : α} {u v : β}
theorem gget_cut{T:List (α×β)}: ∀ {E:List (α×β)},gget E k=none→gget (E++T) k=gget T k
 | [],_=>rfl
 |(a,w)::E,h=>by
  simp only[gget] at h
  by_cases hk:k=a
  · rw[if_pos hk] at h;cases h
  · rw[if_neg hk] at h
    simp only[List.cons_append,gget,if_neg hk]
    exact gget_cut h
theorem gget_new(h:gget E k=none):gget (E++ [(k,u)]) k=some u:=by
 rw[gget_cut h]
 simp[gget]
theorem gset_cut{T:List (α×β)}: ∀ {E:List (α×β)},gget E k=none→gset (E++T) k v=E++gset T k v
 | [],_=>rfl
 |(a,w)::E,h=>by
  simp only[gget] at h
  by_cases hk:k=a
  · rw[if_pos hk] at h;cases h
  · rw[if_neg hk] at h
    simp only[List.cons_append,gset,if_neg hk]
    rw[gset_cut h]
theorem gset_new(h:gget E k=none):gset E k v=E++ [(k,v)]:=by
 have h1:=gset_cut (T:= []) (v:=v) h
 rw[List.append_nil] at h1
 exact h1
theorem gset_last(h:gget E k=none):gset (E++ [(k,u)]) k v=E++ [(k,v)]:=by
 rw[gset_cut h]
 simp[gset]
end
def MK{β:Type}(f:Nat→β)(fi:Int)(gs k:Nat):List (Ky×β):=(List.range k).map fun i=>(oK fi gs i,f i)
section
variable {β : Type} {f : Nat → β} {fi : Int} {gs k : Nat}
theorem mk_len:(MK f fi gs k).length=k:=by unfold MK;rw[List.length_map,List.length_range]
theorem mk_next:MK f fi gs k++ [(oK fi gs k,f k)]=MK f fi gs (k+1):=by
 unfold MK
 rw[List.range_succ,List.map_append]
 rfl
theorem mk_none(hg:Gn fi gs): ∀ {k j:Nat},k≤j→gget (MK f fi gs k) (oK fi gs j)=none
 |0,_,_=>rfl
 |k+1,j,h=>by
  rw[←mk_next,gget_cut (mk_none hg om)]
  simp only[gget]
  rw[if_neg]
  intro he
  have:=oK_inj hg he
  omega
end
def EK(fi:Int)(gs k:Nat):KlT:=MK (fun i=>([120],(i:Int),0,1,3)) fi gs k
def EO(fi:Int)(gs k:Nat):KlT:=EK fi gs k++ [(oK fi gs k,([120], -1,0,0,2))]
section
variable {fi : Int} {gs k : Nat}
theorem ek_len:(EK fi gs k).length=k:=mk_len
theorem ek_none(hg:Gn fi gs):gget (EK fi gs k) (oK fi gs k)=none:=mk_none hg (Nat.le_refl _)
theorem ek_open(hg:Gn fi gs):gset (EK fi gs k) (oK fi gs k) ([120], -1,0,0,2)=EO fi gs k:=gset_new (ek_none hg)
theorem eo_some(hg:Gn fi gs):gget (EO fi gs k) (oK fi gs k)=some ([120], -1,0,0,2):=gget_new (ek_none hg)
theorem eo_try(hg:Gn fi gs):gset (EO fi gs k) (oK fi gs k) ([120],(k:Int),0,1,3)=EK fi gs (k+1):=by
 unfold EO
 rw[gset_last (ek_none hg)]
 exact mk_next
theorem sk_stale(hg:Gn fi gs){i:Nat}(hi:i/gs<8):fndE (SK fi gs k) (oK fi gs i)=7:=(fndX_no (ok_good hg hi) (fun e he=>by cases he)).1
def DK(fi:Int)(gs k:Nat):List Ky:=(List.range k).map (oK fi gs)
theorem dk_len:(DK fi gs k).length=k:=by unfold DK;rw[List.length_map,List.length_range]
theorem dk_at{i:Nat}(h:i<k):(DK fi gs k)[i]? =some (oK fi gs i):=by
 unfold DK
 rw[List.getElem?_map,List.getElem?_range h]
 rfl
theorem dk_next:DK fi gs k++ [oK fi gs k]=DK fi gs (k+1):=by
 unfold DK
 rw[List.range_succ,List.map_append]
 rfl
end
end
theorem ut22_1_Op(b:Nat):HQ 9 [iV 7,iV b,iV 0,iV 0] [] (.agg #[iV 7,iV b,iV 0,iV 0,iV 0,.string (St [])]) []:=by
 refine hiS func9 ntmps9 fun g w0 R h0=>g0<|nP 37 [iV 0,iV 0,iV 0,iV 0,iV 0,.string (St [])] h0 (fun _ _ h12=> ?_)
 refine g0<|sA [iV 7,iV b,iV 0,iV 0,iV 0,.string (St [])] h12 fun _ h14=>g0 ?_
 exact enR (.agg #[iV 7,iV b,iV 0,iV 0,iV 0,.string (St [])]) [rd 0 0 0 0 6 h14] h14.a.t1
theorem acks_ht(mb rg ar yc rq n m:Nat)(zz yy:Int)(q:Nat)(mq bt ba cp fi:Int)(tb wd qo lk:Nat)(D:List Ky)(nr:Nat)(A:List Sl2)(s:Nat)(gn ec bg:Int)(p:Nat)(hf0:0≤(m:Int)-1)(hf1:0≤ -(m:Int)+4)(hf2:0≤ -(nr:Int)-(m:Int)+100000)(hf3:0≤2*(n:Int)-(p:Int)+3)(hf4:0≤(n:Int)-(s:Int)-1):HQ 10 [pV mb,.agg #[iV n,iV m,iV zz,iV yy,iV q,iV mq,iV bt,iV ba,iV cp,uV fi]] [Mch mb rg m D nr,Cl rg [pV ar,pV yc,pV rq,iV n,iV m,iV zz,iV yy,iV q,iV mq,iV bt,iV ba,iV cp,uV fi,pV tb,pV wd,pV qo,pV lk] 84,GcC yc n m ec bg p 0,GcA ar n m A s gn p] (.tuple #[]) [Mch mb rg m D (nr+m),Cl rg [pV ar,pV yc,pV rq,iV n,iV m,iV zz,iV yy,iV q,iV mq,iV bt,iV ba,iV cp,uV fi,pV tb,pV wd,pV qo,pV lk] 84,GcC yc n m ec bg p m,GcA ar n m A s gn p]:=by
 refine hiS func10 ntmps10 fun g w0 R h0=>g0<|nP 26 [iV n,iV m,iV zz,iV yy,iV q,iV mq,iV bt,iV ba,iV cp,uV fi] h0 (fun r10 _ h12=> ?_)
 refine g0 ?_
 refine lpS (fun mz_ a w=> ∃i:Nat,∃lr:Fr,mz_=m-i∧(i≤m)∧a=mk 15 (([(0,pV mb),(3,pV r10),(4,iV i)]:Fr)++lr)∧sat g w [Cl r10 [iV n,iV m,iV zz,iV yy,iV q,iV mq,iV bt,iV ba,iV cp,uV fi] 26,Mch mb rg m D (nr+i),Cl rg [pV ar,pV yc,pV rq,iV n,iV m,iV zz,iV yy,iV q,iV mq,iV bt,iV ba,iV cp,uV fi,pV tb,pV wd,pV qo,pV lk] 84,GcC yc n m ec bg p i,GcA ar n m A s gn p,R]) (m-0) ⟨0,_,rfl,(Nat.zero_le _),(lvF [.k 0 (pV mb),.k 3 (pV r10),.o 4 (oJ .i64 0 (0:Int))]),h12⟩ ?_
 rintro m14 a15 w16 ⟨i,lr13,rfl,hi_,rfl,h17⟩
 refine ga<|go [rd 2 2 0 1 1 h17,.s 2 3] ?_
 by_cases c18:(i:Int)<(m:Int)
 ·
  refine go [.v 2 3 (oT _ c18)]<|cl0 call9 (ut22_1_Op i) h17 fun _ h20=>cl4 call7 (mdo_ack mb rg ar yc rq n m zz yy q mq bt ba cp fi tb wd qo lk D (nr+i) A s gn ec bg p i om om om om om) h20.d.d.d.d.t6 fun _ h23=>go [.v 3 1 (oIr ((i:Int)+1))] ?_
  refine enL ?_
  have h24:=h23.d.t6
  change ∃n',n'<_∧_
  refine⟨(m-(i+1)),by omega,(i+1),_,rfl,om,(lvF [.k 0 (pV mb),.k 3 (pV r10),.o 4 (oJ .i64 ((i:Int)+1) (((i+1):Nat):Int))]),h24⟩
 refine go [.v 2 3 (oF _ c18)]<|up<|g0 ?_
 obtain rfl:i=m:=by omega
 exact enR _ [] (tk5 (sf4 (sf4 (sf4 (sf4 (sf5 h17.d.d.d.d.t6))))))
theorem mdo_mark0(mb rg ar yc rq n m:Nat)(zz yy:Int)(q:Nat)(mq bt ba cp fi:Int)(tb wd qo lk:Nat)(D:List Ky)(nr:Nat)(A:List Sl2)(s:Nat)(gn ec bg f:Int)(k:Nat)(hf0:0≤ -(nr:Int)+99999)(hf1:0≤(k:Int)-1)(hf2:0≤ -(k:Int)+10000)(hf3:0≤(n:Int)-(s:Int)-1)(hf4:0≤ec)(hf5:0≤ -ec+1000000)(hf6:0≤(m:Int)-1)(hf7:0≤(q:Int)-1)(hf8:0≤gn-1):HQ 7 [pV mb,Value.agg #[iV 13,iV 0,iV k,iV 0,iV 0,Value.string (St [])]] [Mch mb rg m D nr,Cl rg [pV ar,pV yc,pV rq,iV n,iV m,iV zz,iV yy,iV q,iV mq,iV bt,iV ba,iV cp,uV fi,pV tb,pV wd,pV qo,pV lk] 84,GcC yc n m ec bg 0 m,GcA ar n m A s gn 0,Rq0 rq q f] (Value.agg #[iV 0,iV 0]) [Mch mb rg m D (nr+1),Cl rg [pV ar,pV yc,pV rq,iV n,iV m,iV zz,iV yy,iV q,iV mq,iV bt,iV ba,iV cp,uV fi,pV tb,pV wd,pV qo,pV lk] 84,GcC yc n m ec bg 1 0,GcA ar n m A s gn 1,Rq0 rq q f]:=by
 have hG:GOk n m 0 m:=⟨fun _=>rfl,fun h=>by omega,by omega⟩
 have h:=mdo_mark mb rg ar yc rq n m zz yy q mq bt ba cp fi tb wd qo lk D nr A s gn ec bg 0 m f k hG om om om om om om om om om
 obtain⟨i_,rfl⟩: ∃i_,k=i_+1:=⟨k-1,by omega⟩
 rw[mv_from0 om] at h
 exact h
theorem mdo_markE(mb rg ar yc rq n m:Nat)(zz yy:Int)(q:Nat)(mq bt ba cp fi:Int)(tb wd qo lk:Nat)(D:List Ky)(nr:Nat)(A:List Sl2)(s:Nat)(gn ec bg:Int)(p:Nat)(f:Int)(k:Nat)(hf0:0≤ -(nr:Int)+99999)(hf1:0≤(k:Int)-1)(hf2:0≤ -(k:Int)+10000)(hf3:0≤(n:Int)-(s:Int)-1)(hf4:0≤ec)(hf5:0≤ -ec+1000000)(hf6:0≤(m:Int)-1)(hf7:0≤(q:Int)-1)(hf8:0≤gn-1)(hf9:0≤(p:Int)-1)(hf10:0≤2*(n:Int)-(p:Int)+3)(hf11:0≤(p:Int)+(k:Int)-2*(n:Int)-3):HQ 7 [pV mb,Value.agg #[iV 13,iV 0,iV k,iV 0,iV 0,Value.string (St [])]] [Mch mb rg m D nr,Cl rg [pV ar,pV yc,pV rq,iV n,iV m,iV zz,iV yy,iV q,iV mq,iV bt,iV ba,iV cp,uV fi,pV tb,pV wd,pV qo,pV lk] 84,GcC yc n m ec bg p m,GcA ar n m A s gn p,Rq0 rq q f] (Value.agg #[iV 0,iV 0]) [Mch mb rg m D (nr+1),Cl rg [pV ar,pV yc,pV rq,iV n,iV m,iV zz,iV yy,iV q,iV mq,iV bt,iV ba,iV cp,uV fi,pV tb,pV wd,pV qo,pV lk] 84,GcC yc n m ec bg (n*2+3) 0,GcA ar n m A s gn (n*2+3),Rq0 rq q f]:=by
 have hG:GOk n m p m:=⟨fun h=>by omega,fun _=> .inl rfl,by omega⟩
 have h:=mdo_mark mb rg ar yc rq n m zz yy q mq bt ba cp fi tb wd qo lk D nr A s gn ec bg p m f k hG om om om om om om om om om
 obtain⟨i_,rfl⟩: ∃i_,k=i_+1:=⟨k-1,by omega⟩
 rw[mv_from om om om,show min (p+(i_+1)) (3+2*n)=n*2+3 from by omega] at h
 exact h
abbrev w4L:List UInt8:= [109,97,105,110]
def w4A:List Sl2:=List.replicate 4 (0,1)
def w4S:Ts:=⟨List.replicate 256 (0,1),[],[]⟩
def w4W:Wst:=wnew 1
def w4O:Ts:=opnS w4S (1,0,1) w4L (0,1)
def w4V:Wst:=acqS w4W 1 5
def w4C:Ts:=clsS w4O (1,0,1)
def w4D:Ts:=setS w4C 1 ⟨(1,0,1),2,1,0,0,w4L⟩
theorem w4_tag:tagE w4L=0:=by kernel_rfl
theorem w4_A:freeS w4A=some (0,1):=by kernel_rfl
theorem w4_Al:(inS 0 w4A 0).length=4:=by kernel_rfl
theorem w4_aE:acqE w4W 1 5=0:=by kernel_rfl
theorem w4_aO:acqO w4W 1 5=(1,((0:Nat):Int),1):=by kernel_rfl
theorem w4_oE:topE w4S (1,0,1) w4L (((0:Nat):Int),1)=0:=by kernel_rfl
theorem w4_oD:opnD w4S (1,0,1) w4L (((0:Nat):Int),1)=(1,((0:Nat):Int),1):=by kernel_rfl
theorem w4_Sl:w4S.R.length=0:=rfl
theorem w4_S3:(nums w4S.R 3).length=0:=rfl
theorem w4_Sr:1≤(inS 0 w4S.A 0).length:=Nat.le_of_ble_eq_true kr
theorem w4_f:fndE w4O (1,((0:Nat):Int),1)=0:=by kernel_rfl
theorem w4_n:(fndX w4O (1,((0:Nat):Int),1)).num=1:=by kernel_rfl
theorem w4_l:clsL w4O (1,((0:Nat):Int),1)=true:=by kernel_rfl
theorem w4_g:getR w4C 1=⟨(1,0,1),1,0,0,0,w4L⟩:=by kernel_rfl
theorem w4_e:nE w4C 1=0:=by kernel_rfl
theorem w4_x:setE w4C 1 ⟨(1,0,1),2,1,0,0,w4L⟩=0:=by kernel_rfl
theorem w4_w:w4V.now=0:=by kernel_rfl
theorem w4_s:fndE w4D (1,((0:Nat):Int),1)=7:=by kernel_rfl
theorem t23e34_eql_t{n:Nat}{l:Fr}{o:Oper}{x y:Operand}(a0 a1 c0 c1:Int)(ho:o.op= .binOp .eql 34 x y 34)(hx:fe n l x= .agg #[iV a0,iV a1])(hy:fe n l y= .agg #[iV c0,iV c1])(h:a0=c0∧a1=c1)(w:World):(execOp (fe n l) o).run prog w= .ok (.value (.bool true)) w:=by
 obtain⟨rfl,rfl⟩:=h
 simp[execOp,ho,hx,hy,go_sem]
theorem t23e34_neq_t{n:Nat}{l:Fr}{o:Oper}{x y:Operand}(a0 a1 c0 c1:Int)(ho:o.op= .binOp .neq 34 x y 34)(hx:fe n l x= .agg #[iV a0,iV a1])(hy:fe n l y= .agg #[iV c0,iV c1])(h:a0=c0∧a1=c1)(w:World):(execOp (fe n l) o).run prog w= .ok (.value (.bool false)) w:=by
 obtain⟨rfl,rfl⟩:=h
 simp[execOp,ho,hx,hy,go_sem]
theorem ut23_1_Use(f c:Nat)(a:Int)(i j k l m:Nat)(o p:Int)(q:Nat)(s t u x y:Int)(d z A B:Nat)(e:Ts)(D:Int)(E:fndE e (1,(c:Int),a)=0)(F:(fndX e (1,(c:Int),a)).num=D)(hf0:0≤ -(c:Int)+255)(hf1:0≤a-1)(hf2:0≤ -a+4294967295):HQ 139 [pV f,.agg #[iV 1,iV c,uV a]] [Cl f [pV j,pV k,pV l,iV m,iV i,iV o,iV p,iV q,iV s,iV t,iV u,iV x,uV y,pV d,pV z,pV A,pV B] 84,TW d 256 e] (iV 0) [Cl f [pV j,pV k,pV l,iV m,iV i,iV o,iV p,iV q,iV s,iV t,iV u,iV x,uV y,pV d,pV z,pV A,pV B] 84,TW d 256 e]:=by
 refine hiS func139 ntmps139 fun g w0 R h0=>g0<|nP 39 [iV 1,iV c,uV a] h0 (fun _ _ h12=> ?_)
 have h13:=h12.b.b.t4
 refine go [rd 1 1 0 0 3 h12]<|cl2 call207 (ut16_5_find f c a j k l m i o p q s t u x y d z A B e D E F om om om) h13 fun _ h15=>g0 ?_
 exact enR _ [] h15.C.t3
theorem ut23_2_use(t a k l:Nat)(m:Option Addr)(i o:Nat)(O:Option Addr)(P Q:Nat)(u:List Ky)(x y z A:Nat)(B C:Int)(D:Nat)(E F G H I:Int)(p J L M:Nat)(q:Ts)(f:Nat)(d S:Int)(T:fndE q (1,(f:Int),d)=0)(U:(fndX q (1,(f:Int),d)).num=S)(N:u[a]? =some (1,(f:Int),d))(hf0:0≤(i:Int)-(a:Int)-1)(hf1:0≤ -(f:Int)+255)(hf2:0≤d-1)(hf3:0≤ -d+4294967295):HQ 82 [pV t,.agg #[iV 10,iV 0,iV a,iV 0,iV 0,.string (St [])]] [Cl t [iV k,pV l,.slice m i o,.slice O P Q] 70,Sl 39 3 m i o (fl eO u),Cl l [pV x,pV y,pV z,iV A,iV k,iV B,iV C,iV D,iV E,iV F,iV G,iV H,uV I,pV p,pV J,pV L,pV M] 84,TW p 256 q] (.agg #[iV 0,iV 0]) [Cl t [iV k,pV l,.slice m i o,.slice O P Q] 70,Sl 39 3 m i o (fl eO u),Cl l [pV x,pV y,pV z,iV A,iV k,iV B,iV C,iV D,iV E,iV F,iV G,iV H,uV I,pV p,pV J,pV L,pV M] 84,TW p 256 q]:=by
 refine hiS func82 ntmps82 fun g w0 R h0=>g0<|nP 37 [iV 10,iV 0,iV a,iV 0,iV 0,.string (St [])] h0 (fun _ _ h12=> ?_)
 refine nP 34 [iV 0,iV 0] h12 (fun _ _ h15=> ?_)
 refine g0<|dw (fls [0,1,2,3,4,5,6,7,8,9,10,11] (Tr.an 12 (Tr.fl 13 (Tr.an 14 Tr.nil)))) h15 fun _ h17=> ?_
 obtain⟨b18,hp19⟩:=sl_ptr0 (j:=3) h17 rfl om
 refine go [rd 1 3 2 1 1 h17,rd 1 7 2 2 1 h17,rd 1 9 1 2 1 h17,.s 1 10]<|lw (.pointer (some ⟨b18,a*3,none⟩)) (fun _=>liP (Ot 12) (Ot 14) m b18 0 (a:Int) i o underlying67 3 a hp19 (a*3)) ?_
 have h20:=h17.c.t7
 have hl21:=fl_n eO_ok dc h20
 have h22:=h20.e.e.t7
 refine go [.r 1 11 b18 (a*3) [iV 1,iV f,uV d] ⟨gvc 0 h20 rfl hp19 eO_ok 0 (iV 1) N (a*3),gvc 0 h20 rfl hp19 eO_ok 1 (iV f) N (a*3+1),gvc 0 h20 rfl hp19 eO_ok 2 (uV d) N (a*3+2),trivial⟩]<|cw2 call139 (ut23_1_Use l f d k x y z A B C D E F G H I p J L M q S T U om om om) h22 fun _ h24=>⟨kd [],?_⟩
 have h25:=h24.c.t7
 refine g0<|sB [iV 0,iV 0] h25 fun _ h27=>⟨kd [],?_⟩
 refine g0 ?_
 exact enR _ [rd 0 0 0 0 2 h27] (tk5 (sf4 (sf4 (sf4 (sf4 (sf6 h27.b.b.c.e.t7))))))
theorem ut23_3_do(u a b k:Nat)(l:Option Addr)(c o:Nat)(A:Option Addr)(B C:Nat)(y:List Ky)(D E F G:Nat)(H I:Int)(J:Nat)(L M N O P:Int)(p Q S T:Nat)(q:Ts)(s:Nat)(i U:Int)(V:fndE q (1,(s:Int),i)=0)(W:(fndX q (1,(s:Int),i)).num=U)(X:y[a]? =some (1,(s:Int),i))(hf0:0≤ -(a:Int)+1999)(hf1:0≤(b:Int)-1)(hf2:0≤(c:Int)-(a:Int)-1)(hf3:0≤ -(s:Int)+255)(hf4:0≤i-1)(hf5:0≤ -i+4294967295):HQ 18 [pV u,.agg #[iV 10,iV 0,iV a,iV 0,iV 0,.string (St [])]] [Cl u [iV b,pV k,.slice l c o,.slice A B C] 70,Sl 39 3 l c o (fl eO y),Cl k [pV D,pV E,pV F,iV G,iV b,iV H,iV I,iV J,iV L,iV M,iV N,iV O,uV P,pV p,pV Q,pV S,pV T] 84,TW p 256 q] (.agg #[iV 0,iV 0]) [Cl u [iV b,pV k,.slice l c o,.slice A B C] 70,Sl 39 3 l c o (fl eO y),Cl k [pV D,pV E,pV F,iV G,iV b,iV H,iV I,iV J,iV L,iV M,iV N,iV O,uV P,pV p,pV Q,pV S,pV T] 84,TW p 256 q]:=by
 refine hiS func18 ntmps18 fun g w0 R h0=>g0<|nP 37 [iV 10,iV 0,iV a,iV 0,iV 0,.string (St [])] h0 (fun _ _ h12=> ?_)
 refine nP 34 [iV 0,iV 0] h12 (fun _ _ h15=> ?_)
 refine go [rd 1 0 1 0 6 h15]<|cl0 call34 (opc_use a om om) h15 fun _ h17=>g0<|dw (fls [0,1] (Tr.an 2 (fls [3,4,5,6,7,8,9,10,11,12] Tr.nil))) h17 fun _ h19=>go [rd 3 1 1 0 1 h19]<|cw0 call35 opm_10 h19 fun _ h21=>⟨kd [],?_⟩
 refine go [rd 3 5 1 1 1 h21,rd 3 9 2 0 1 h21,.v 3 10 (oF (0≥(b:Int)))]<|dw (fls [0,1] (Tr.an 2 (fls [3,4,5,6,7,8,9,10,11,12,13] Tr.nil))) h21 fun _ h23=>go [rd 4 1 1 0 1 h23]<|cw0 call36 opn_10 h23 fun _ h25=>⟨kd [],?_⟩
 refine go [rd 4 5 1 2 1 h25,rd 4 9 2 2 1 h25,.v 4 11 (oF ((a:Int)≥(c:Int)))]<|dw (fls [1,2] (Tr.an 0 (Tr.an 3 (fls [4,5,6,7,8] Tr.nil)))) h25 fun _ h27=>go [rd 6 2 1 0 1 h27]<|cG call37 ut20_2_rules h27 ?_
 rintro v K _ (⟨r28,rfl,rfl⟩) h30
 have h31:=ap1 h30
 refine⟨kd [rd 0 2 2 0 1 h31],?_⟩
 refine actG ?_
 refine act_law (d:=43) (.tuple #[.func (Fn.func 82) #[] #[],.bool true]) kr rfl (law_lkH (t:=106) (z:=Value.nilFunc) (m:=Ot 40) (x:=Ot 42) (kv:=kI) (ve:=vF) kr underlying106 kyI kr 10 kr kr (j:=0) h31 rfl (.func (Fn.func 82) #[] #[]) 82 (gg_miss om (gg_miss om (gg_miss om (gg_hit rfl)))) rfl) ?_
 refine⟨kd [],nxG ?_⟩
 have h32:=h31.f.f.f.f.t8
 refine go [rd 8 2 2 0 6 h31]<|cl4 call82 (ut23_2_use u a b k l c o A B C y D E F G H I J L M N O P p Q S T q s i U V W X om om om om) h32 fun _ h34=>sA [iV 0,iV 0] h34.e.t8 fun _ h37=>g0 ?_
 exact enR _ [rd 0 0 0 0 2 h37] (tk5 (sf4 (sf4 (sf4 (sf4 (sf7 h37.d.d.d.d.t8))))))
theorem mdo_use0(mb rg ar yc rq n m:Nat)(zz yy:Int)(q:Nat)(mq bt ba cp fi:Int)(tb wd qo lk:Nat)(D:List Ky)(nr:Nat)(S:Ts)(dk:Nat)(dg nz:Int)(i:Nat)(hF:fndE S (1,(dk:Int),dg)=0)(hN:(fndX S (1,(dk:Int),dg)).num=nz)(hD:D[i]? =some (1,(dk:Int),dg))(hf0:0≤ -(nr:Int)+99999)(hf1:0≤dg-1)(hf2:0≤ -dg+4294967295)(hf3:0≤ -(dk:Int)+255)(hf4:0≤(D.length:Int)-(i:Int)-1)(hf5:0≤(m:Int)-1):HQ 7 [pV mb,.agg #[iV 10,iV 0,iV i,iV 0,iV 0,.string (St [])]] [Mch mb rg m D nr,Cl rg [pV ar,pV yc,pV rq,iV n,iV m,iV zz,iV yy,iV q,iV mq,iV bt,iV ba,iV cp,uV fi,pV tb,pV wd,pV qo,pV lk] 84,TW tb 256 S] (.agg #[iV 0,iV 0]) [Mch mb rg m D (nr+1),Cl rg [pV ar,pV yc,pV rq,iV n,iV m,iV zz,iV yy,iV q,iV mq,iV bt,iV ba,iV cp,uV fi,pV tb,pV wd,pV qo,pV lk] 84,TW tb 256 S]:=by
 refine hiS func7 ntmps7 fun g w0 R h0=> ?_
 obtain⟨p10,c11,p12,c13,rl14,hp15,hp16,h17⟩:=Mch_open h0
 have h18:sat g _ (Cl mb [iV m,pV rg,.slice p10 D.length c11,.slice p12 nr c13] 70::_):=h17
 refine g0<|nP 37 [iV 10,iV 0,iV i,iV 0,iV 0,.string (St [])] h18 (fun r19 _ h21=> ?_)
 refine nP 34 [iV 0,iV 0] h21 (fun r22 _ h24=> ?_)
 have h25:=h24.b.t8
 refine g0<|cl1 call17 (ut20_1_valid mb m rg p10 D.length c11 p12 nr c13) h25 fun _ h27=> ?_
 have h28:=h27.f.f.e.c.t8
 refine go [rd 3 1 2 0 6 h27]<|cl4 call18 (ut23_3_do mb i m rg p10 D.length c11 p12 nr c13 D ar yc rq n zz yy q mq bt ba cp fi tb wd qo lk S dk dg nz hF hN hD om om om om om om) h28 fun _ h30=>nP 34 [iV 0,iV 0] h30 (fun r31 _ h33=> ?_)
 refine sA [iV 0,iV 0] h33 fun _ h35=>g0<|dw (fls [0,1,2,3,4,5] (Tr.an 6 (Tr.an 7 (fls [8,9] (Tr.an 10 Tr.nil))))) h35 fun _ h37=>go [rd 4 4 1 3 1 h37,rd 4 5 0 0 2 h37]<|nG (fun q_=> .slice (some ⟨q_,0,none⟩) 1 1) 34 [iV 0,iV 0] h37 (fun r38 _ h40=>⟨kd [rd 0 4 2 3 1 h40],?_⟩)
 have h41:=h40.h.t10
 refine actG ?_
 refine aA 20 2 (Ot 17) (Ot 19) (.agg #[iV 0,iV 0]) p12 nr c13 1 1 (⟨r38,0,none⟩) 16 underlying68 h41 (fl eRz [(0,0)]) rfl (cell1 h41 rfl) (fl_one eRz_ok _) (nr+1) ?_
 intro p42 cap43 w44 h45
 have h46:sat g _ (Sl 34 2 p42 (nr+1) cap43 (fl eRz (rl14++ [(0,0)]))::_):=sJ h45
 obtain⟨hn47,hn48⟩:=sl_le h46
 refine⟨kd [],nxG ?_⟩
 have h49:=h46.c.t10
 refine g0<|sG [(3,.slice p42 (nr+1) cap43)] [iV m,pV rg,.slice p10 D.length c11,.slice p42 (nr+1) cap43] h49 fun _ h51=>⟨kd [],?_⟩
 have h52:=h51.x.t10
 refine go [rd 5 0 3 0 2 h51]<|sA [iV 0,iV 0] h52 fun w53 h54=>g0 ?_
 have h56:sat g _ (Mch mb rg m D (nr+1)::_):=Mch_close mb rg m D (nr+1) p10 c11 p42 cap43 (rl14++ [(0,0)]) om om h54.b.e.c.t10
 exact enR _ [rd 0 0 0 0 2 h54] (tk4 (sf3 (sf3 (sf3 (sf7 h56.e.e.b.t8)))))
theorem mcnew40:HT prog 6 [Value.agg #[iV 4,iV 1,iV 1,iV 1,iV 1,iV 2,iV 1,iV 1,iV 2,uV 1]] [] (fun v K=> ∃mb:Nat,∃rg:Nat,∃ar:Nat,∃yc:Nat,∃rq:Nat,∃tb:Nat,∃wd:Nat,∃qo:Nat,∃lk:Nat,v=Value.tuple #[pV mb,iV 0]∧K= [Mch mb rg 1 [] 0,Cl rg [pV ar,pV yc,pV rq,iV 4,iV 1,iV 1,iV 1,iV 1,iV 2,iV 1,iV 1,iV 2,uV 1,pV tb,pV wd,pV qo,pV lk] 84,Ar0 ar 4 1 w4A,Cy yc 4 1 0 0 0 0 4 0,Rq0 rq 1 0,TW tb 256 w4S,Wd wd w4W,Cl qo [iV 2,Value.pointer none] 191,Rpo lk 0 []]):=mcnew 4 1 1 1 1 2 1 1 2 1 om om om om om om om om om om om om om om om om om om om
theorem works40_ht:HQ 12 [] [] (.bool true) []:=by
 refine hiS func12 ntmps12 fun g w0 R h0=> ?_
 have ht_:tagE [109,97,105,110]=0:=w4_tag;have hA_:=w4_Al;have hS_:=w4_Sl;have a:=w4_S3;have hr_:=w4_Sr;have hn_:([]:List Ky).length=0:=rfl;have j:([]:KlT).length=0:=rfl;have k:(([]:List Ky)++ [(1,(0:Int),1)]).length=1:=rfl
 refine g0<|cP call6 mcnew40 h0 ?_
 rintro v K w19 (⟨mb10,rg11,ar12,yc13,rq14,tb15,wd16,qo17,lk18,rfl,rfl⟩) h20
 have h21:sat g _ (Mch mb10 rg11 1 [] 0::_):=h20
 refine g0<|cP call7 (mdo_open mb10 rg11 ar12 yc13 rq14 4 1 1 1 1 2 1 1 2 1 tb15 wd16 qo17 lk18 [] 0 5 [109,97,105,110] w4A 0 1 0 0 4 w4S w4W w4V 0 1 0 1 w4O 0 [] ([((1,0,1),([109,97,105,110], -1,0,0,2))]) w4_A w4_aE w4_aO rfl w4_oE w4_oD rfl rfl rfl om om om om om om om om om om om om om om om om om om om om om om om om om om) h21 ?_
 rintro v K w22 (⟨rfl,rfl⟩) h23
 have h24:sat g _ (Mch mb10 rg11 1 ([]++ [(1,(0:Int),1)]) 1::_):=h23
 refine go [.s 2 7]<|lwP (.bool false) (t23e34_neq_t (x:=Ot 13) (y:=Ot 14) 0 (([].length:Nat):Int) 0 0 kr kr kr ⟨rfl,om⟩ _) ?_
 have h25:=h24.e.b.b.t10
 refine g0<|cl3 call7 (mdo_use0 mb10 rg11 ar12 yc13 rq14 4 1 1 1 1 2 1 1 2 1 tb15 wd16 qo17 lk18 ([]++ [(1,(0:Int),1)]) 1 w4O 0 1 1 0 w4_f w4_n rfl om om om om om om) h25 fun _ h27=>go [.s 4 4]<|lwP (.bool true) (t23e34_eql_t (x:=Ot 19) (y:=Ot 20) 0 0 0 0 kr kr kr ⟨rfl,rfl⟩ _) ?_
 have h28:=h27.f.c.f.d.d.t10
 refine g0<|cl5 call7 (mdo_cls1 mb10 rg11 ar12 yc13 rq14 4 1 1 1 1 2 1 1 2 1 tb15 wd16 qo17 lk18 ([]++ [(1,(0:Int),1)]) 2 [109,97,105,110] w4O w4C w4D w4V 0 1 1 0 1 0 1 0 w4_f w4_n w4_l rfl w4_g w4_e w4_x rfl w4_w rfl om om om om om om om om om om om om) h28 fun _ h30=>go [.s 4 10]<|lwP (.bool true) (t23e34_eql_t (x:=Ot 25) (y:=Ot 26) 0 0 0 0 kr kr kr ⟨rfl,rfl⟩ _) ?_
 have h31:=h30.c.b.b.t10
 refine g0<|cl3 call7 (mdo_use7 mb10 rg11 ar12 yc13 rq14 4 1 1 1 1 2 1 1 2 1 tb15 wd16 qo17 lk18 ([]++ [(1,(0:Int),1)]) 3 w4D 0 1 0 w4_s rfl om om om om om om) h31 fun _ h33=>g0 ?_
 exact enR _ [] h33.i.t1
end Go.Proofs.YtcgkoffnknpgjaaGreatDoor
