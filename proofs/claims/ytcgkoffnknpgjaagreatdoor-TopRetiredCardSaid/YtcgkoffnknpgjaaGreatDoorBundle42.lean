/- Walks, printed by my generator t3.py. -/
import Derived.Test.YtcgkoffnknpgjaaGreatDoorBundle41
import Derived.Test.YtcgkoffnknpgjaaGreatDoorHq
namespace Go.Proofs.YtcgkoffnknpgjaaGreatDoor
set_option linter.unusedVariables false
set_option linter.unusedSimpArgs false
open Tryz
set_option maxHeartbeats 4000000
def Mr_p(b n m:Nat)(ph cy sn:Int)(ck pt sk:Nat)(p:Option Addr)(c:Nat)(qs:List Nat)(zz yy:Int):List Assn:= [Cl b [iV n,iV m,pV ck,pV pt,pV sk,Value.slice p m c] 250,Cl ck [iV ph,iV m,iV cy,Value.bool (decide (0<sn)),Value.bool (decide (1<sn)),Value.bool (decide (2<sn)),Value.bool (decide (3<sn)),Value.bool (decide (0<(m:Int))),Value.bool (decide (1<(m:Int))),Value.bool (decide (2<(m:Int))),Value.bool (decide (3<(m:Int)))] 340,Cl pt ([iV n]++List.replicate 256 (yV 0)) 336,Cl sk ([Value.bool false,iV 0,iV zz]++List.replicate 65 (iV 0)) 344,Sl 257 1 p m c (fl ePB qs),Bs (List.replicate 64 (iV 0)++ [iV yy,iV 0,iV 0,Value.bool true]) 346 qs]
def Mr(b n m:Nat)(ph cy sn:Int):Assn:=fun h=> ∃ck:Nat,∃pt:Nat,∃sk:Nat,∃p:Option Addr,∃c:Nat,∃qs:List Nat,∃zz:Int,∃yy:Int,(qs.length=m)∧(1≤m)∧(m≤4)∧(1≤n)∧(n≤256)∧(1≤zz∧zz≤64)∧(1≤yy∧yy≤64)∧star (Mr_p b n m ph cy sn ck pt sk p c qs zz yy) h
theorem Mr_open{g w:World}{L_:List Assn}{b:Nat}{n:Nat}{m:Nat}{ph:Int}{cy:Int}{sn:Int}(h:sat g w (Mr b n m ph cy sn::L_)): ∃ck:Nat,∃pt:Nat,∃sk:Nat,∃p:Option Addr,∃c:Nat,∃qs:List Nat,∃zz:Int,∃yy:Int,(qs.length=m)∧(1≤m)∧(m≤4)∧(1≤n)∧(n≤256)∧(1≤zz∧zz≤64)∧(1≤yy∧yy≤64)∧sat g w (Mr_p b n m ph cy sn ck pt sk p c qs zz yy++L_):=by
 obtain⟨⟨ck,pt,sk,p,c,qs,zz,yy⟩,hp,h2⟩:=sat_open (X:=Nat×Nat×Nat×(Option Addr)×Nat×(List Nat)×Int×Int) (p:=fun q_=>(q_.2.2.2.2.2.1.length=m)∧(1≤m)∧(m≤4)∧(1≤n)∧(n≤256)∧(1≤q_.2.2.2.2.2.2.1∧q_.2.2.2.2.2.2.1≤64)∧(1≤q_.2.2.2.2.2.2.2∧q_.2.2.2.2.2.2.2≤64)) (B:=fun q_=>star (Mr_p b n m ph cy sn q_.1 q_.2.1 q_.2.2.1 q_.2.2.2.1 q_.2.2.2.2.1 q_.2.2.2.2.2.1 q_.2.2.2.2.2.2.1 q_.2.2.2.2.2.2.2)) h (fun _ hk=>by obtain⟨ck,pt,sk,p,c,qs,zz,yy,hp0,hp1,hp2,hp3,hp4,hp5,hp6,hk⟩:=hk;exact⟨(ck,pt,sk,p,c,qs,zz,yy),⟨hp0,hp1,hp2,hp3,hp4,hp5,hp6⟩,hk⟩)
 exact⟨ck,pt,sk,p,c,qs,zz,yy,hp.1,hp.2.1,hp.2.2.1,hp.2.2.2.1,hp.2.2.2.2.1,hp.2.2.2.2.2.1,hp.2.2.2.2.2.2,sat_unstar h2⟩
theorem Mr_close{g w:World}{L_:List Assn}(b n m:Nat)(ph cy sn:Int)(ck pt sk:Nat)(p:Option Addr)(c:Nat)(qs:List Nat)(zz yy:Int)(hp0:qs.length=m)(hp1:1≤m)(hp2:m≤4)(hp3:1≤n)(hp4:n≤256)(hp5:1≤zz∧zz≤64)(hp6:1≤yy∧yy≤64)(h:sat g w (Mr_p b n m ph cy sn ck pt sk p c qs zz yy++L_)):sat g w (Mr b n m ph cy sn::L_):=sat_imp (sat_star h) fun _ hk=>⟨ck,pt,sk,p,c,qs,zz,yy,hp0,hp1,hp2,hp3,hp4,hp5,hp6,hk⟩
theorem ut3_1_valid(f a:Nat)(i:Int)(b c d e:Bool)(hf0:0≤(a:Int)-1):HQ 232 [pV f] [Cl f [iV 1,iV a,iV i,.bool b,.bool c,.bool d,.bool e,.bool b,.bool c,.bool d,.bool e] 340] (.bool true) [Cl f [iV 1,iV a,iV i,.bool b,.bool c,.bool d,.bool e,.bool b,.bool c,.bool d,.bool e] 340]:=by
 refine hiS func232 ntmps232 fun g w0 R h0=>go [rd 1 6 0 1 1 h0,.v 1 7 (oT ((a:Int)>0))] ?_
 exact enR _ [] h0
theorem ut3_2_shakes(e f:Nat)(i:Int)(a b c d:Bool):HQ 394 [pV e] [Cl e [iV 1,iV f,iV i,.bool a,.bool b,.bool c,.bool d,.bool a,.bool b,.bool c,.bool d] 340] (.bool true) [Cl e [iV 1,iV f,iV i,.bool a,.bool b,.bool c,.bool d,.bool a,.bool b,.bool c,.bool d] 340]:=by
 refine hiS func394 ntmps394 fun g w0 R h0=>go [rd 1 3 0 0 1 h0] ?_
 exact enR _ [] h0
theorem rdy1_ht(b m:Nat)(cy:Int)(a0 a1 a2 a3:Bool)(hf0:0≤(m:Int)-1)(hf1:0≤ -(m:Int)+4):HQ 466 [pV b] [Cl b [iV 1,iV m,iV cy,.bool a0,.bool a1,.bool a2,.bool a3,.bool a0,.bool a1,.bool a2,.bool a3] 340] (.bool true) [Cl b [iV 1,iV m,iV cy,.bool a0,.bool a1,.bool a2,.bool a3,.bool a0,.bool a1,.bool a2,.bool a3] 340]:=by
 refine hiS func466 ntmps466 fun g w0 R h0=>g0<|dw (Tr.fl 0 (Tr.an 1 (fls [2,3] (Tr.an 4 (fls [5,6,7,8,9,10,11,12,13,14,15,16,17] Tr.nil))))) h0 fun _ h11=>g0<|cw1 call232 (ut3_1_valid b m cy a0 a1 a2 a3 om) h11 fun _ h13=>⟨kd [],?_⟩
 refine g0<|cw1 call394 (ut3_2_shakes b m cy a0 a1 a2 a3) h13 fun _ h15=>⟨kd [],?_⟩
 refine go [rd 1 10 0 3 4 h15,rd 1 14 0 7 4 h15,.s 1 15]<|lw (.bool true) (fun _=>law_eqS (x:=Ot 13) (y:=Ot 17) (t:=338) (xs:= #[.bool a0,.bool a1,.bool a2,.bool a3]) kr kr kr kr kr kr kr _)<|g0 ?_
 exact enR _ [] h15
theorem ut3_5_valid(b a:Nat)(c:Int)(d e f i j k l m:Bool)(hf0:0≤(a:Int)-1):HQ 232 [pV b] [Cl b [iV 1,iV a,iV c,.bool d,.bool e,.bool f,.bool i,.bool j,.bool k,.bool l,.bool m] 340] (.bool true) [Cl b [iV 1,iV a,iV c,.bool d,.bool e,.bool f,.bool i,.bool j,.bool k,.bool l,.bool m] 340]:=by
 refine hiS func232 ntmps232 fun g w0 R h0=>go [rd 1 6 0 1 1 h0,.v 1 7 (oT ((a:Int)>0))] ?_
 exact enR _ [] h0
theorem ut3_6_find(b c a:Nat)(d:Int)(e f i j k l m o:Bool)(hf0:0≤(a:Int)-(c:Int)-1):HQ 326 [pV b,iV c] [Cl b [iV 1,iV a,iV d,.bool e,.bool f,.bool i,.bool j,.bool k,.bool l,.bool m,.bool o] 340] (iV 0) [Cl b [iV 1,iV a,iV d,.bool e,.bool f,.bool i,.bool j,.bool k,.bool l,.bool m,.bool o] 340]:=by
 refine hiS func326 ntmps326 fun g w0 R h0=>g0<|cl1 call232 (ut3_5_valid b a d e f i j k l m o om) h0 fun _ h11=>go [.v 3 1 (oF ((c:Int)<0)),rd 3 7 0 1 1 h11,.v 3 8 (oF ((c:Int)≥(a:Int)))] ?_
 exact enR _ [] h11
theorem ut3_7_shakes(a b:Nat)(c:Int)(d e f i j k l m:Bool):HQ 394 [pV a] [Cl a [iV 1,iV b,iV c,.bool d,.bool e,.bool f,.bool i,.bool j,.bool k,.bool l,.bool m] 340] (.bool true) [Cl a [iV 1,iV b,iV c,.bool d,.bool e,.bool f,.bool i,.bool j,.bool k,.bool l,.bool m] 340]:=by
 refine hiS func394 ntmps394 fun g w0 R h0=>go [rd 1 3 0 0 1 h0] ?_
 exact enR _ [] h0
theorem cack1_ht(b m:Nat)(cy:Int)(j:Nat)(a0 a1 a2 a3:Bool)(hf0:0≤(m:Int)-1)(hf1:0≤ -(m:Int)+4)(hf2:0≤(m:Int)-(j:Int)-1):HQ 332 [pV b,iV j] [Cl b [iV 1,iV m,iV cy,.bool (decide (0<(j:Int))),.bool (decide (1<(j:Int))),.bool (decide (2<(j:Int))),.bool (decide (3<(j:Int))),.bool a0,.bool a1,.bool a2,.bool a3] 340] (.tuple #[.bool true,iV 0]) [Cl b [iV 1,iV m,iV cy,.bool (decide (0<(j:Int)+1)),.bool (decide (1<(j:Int)+1)),.bool (decide (2<(j:Int)+1)),.bool (decide (3<(j:Int)+1)),.bool a0,.bool a1,.bool a2,.bool a3] 340]:=by
 refine hiS func332 ntmps332 fun g w0 R h0=>g0<|cl1 call326 (ut3_6_find b j m cy (decide (0<(j:Int))) (decide (1<(j:Int))) (decide (2<(j:Int))) (decide (3<(j:Int))) a0 a1 a2 a3 om) h0 fun _ h11=>g0<|cl1 call394 (ut3_7_shakes b m cy (decide (0<(j:Int))) (decide (1<(j:Int))) (decide (2<(j:Int))) (decide (3<(j:Int))) a0 a1 a2 a3) h11 fun _ h13=>go [.s 6 4]<|lwP (.pointer (some ⟨b,j+3,none⟩)) (law_indexArr (x:=Ot 20) (i:=Ot 18) (b:=b) (off:=3) (z:=(j:Int)) kr underlying338 1 kr j kr kr om om (j+3) om _)<|go [.r 6 5 b (j+3) [.bool false] ⟨sat_cell h13 0 rfl (ck_at (j:=j) rfl om om),trivial⟩,.s 7 4]<|lwP (.pointer (some ⟨b,j+3,none⟩)) (law_indexArr (x:=Ot 27) (i:=Ot 25) (b:=b) (off:=3) (z:=(j:Int)) kr underlying338 1 kr j kr kr om om (j+3) om _) ?_
 refine actG ?_
 refine an_store [(j+3,.bool true)] (cs':= [iV 1,iV m,iV cy,.bool (decide (0<(j:Int)+1)),.bool (decide (1<(j:Int)+1)),.bool (decide (2<(j:Int)+1)),.bool (decide (3<(j:Int)+1)),.bool a0,.bool a1,.bool a2,.bool a3]) kr kr (ck_ok (j:=j) om om) (ck_put (j:=j) rfl om om) h13 ?_
 intro _ h15
 refine nxB<|g0 ?_
 exact enR _ [] h15
theorem ut3_8_valid(f a:Nat)(i:Int)(b c d e:Bool)(hf0:0≤(a:Int)-1):HQ 232 [pV f] [Cl f [iV 2,iV a,iV i,.bool b,.bool c,.bool d,.bool e,.bool b,.bool c,.bool d,.bool e] 340] (.bool true) [Cl f [iV 2,iV a,iV i,.bool b,.bool c,.bool d,.bool e,.bool b,.bool c,.bool d,.bool e] 340]:=by
 refine hiS func232 ntmps232 fun g w0 R h0=>go [rd 1 6 0 1 1 h0,.v 1 7 (oT ((a:Int)>0))] ?_
 exact enR _ [] h0
theorem ut3_9_shakes(e f:Nat)(i:Int)(a b c d:Bool):HQ 394 [pV e] [Cl e [iV 2,iV f,iV i,.bool a,.bool b,.bool c,.bool d,.bool a,.bool b,.bool c,.bool d] 340] (.bool true) [Cl e [iV 2,iV f,iV i,.bool a,.bool b,.bool c,.bool d,.bool a,.bool b,.bool c,.bool d] 340]:=by
 refine hiS func394 ntmps394 fun g w0 R h0=>go [rd 1 3 0 0 1 h0,rd 1 9 0 0 1 h0] ?_
 exact enR _ [] h0
theorem rdy2_ht(b m:Nat)(cy:Int)(a0 a1 a2 a3:Bool)(hf0:0≤(m:Int)-1)(hf1:0≤ -(m:Int)+4):HQ 466 [pV b] [Cl b [iV 2,iV m,iV cy,.bool a0,.bool a1,.bool a2,.bool a3,.bool a0,.bool a1,.bool a2,.bool a3] 340] (.bool true) [Cl b [iV 2,iV m,iV cy,.bool a0,.bool a1,.bool a2,.bool a3,.bool a0,.bool a1,.bool a2,.bool a3] 340]:=by
 refine hiS func466 ntmps466 fun g w0 R h0=>g0<|dw (Tr.fl 0 (Tr.an 1 (fls [2,3] (Tr.an 4 (fls [5,6,7,8,9,10,11,12,13,14,15,16,17] Tr.nil))))) h0 fun _ h11=>g0<|cw1 call232 (ut3_8_valid b m cy a0 a1 a2 a3 om) h11 fun _ h13=>⟨kd [],?_⟩
 refine g0<|cw1 call394 (ut3_9_shakes b m cy a0 a1 a2 a3) h13 fun _ h15=>⟨kd [],?_⟩
 refine go [rd 1 10 0 3 4 h15,rd 1 14 0 7 4 h15,.s 1 15]<|lw (.bool true) (fun _=>law_eqS (x:=Ot 13) (y:=Ot 17) (t:=338) (xs:= #[.bool a0,.bool a1,.bool a2,.bool a3]) kr kr kr kr kr kr kr _)<|g0 ?_
 exact enR _ [] h15
theorem ut3_10_valid(b a:Nat)(c:Int)(d e f:Bool)(hf0:0≤(a:Int)-1):HQ 232 [pV b] [Cl b [iV 2,iV a,iV c,.bool false,.bool false,.bool false,.bool false,.bool true,.bool d,.bool e,.bool f] 340] (.bool true) [Cl b [iV 2,iV a,iV c,.bool false,.bool false,.bool false,.bool false,.bool true,.bool d,.bool e,.bool f] 340]:=by
 refine hiS func232 ntmps232 fun g w0 R h0=>go [rd 1 6 0 1 1 h0,.v 1 7 (oT ((a:Int)>0))] ?_
 exact enR _ [] h0
theorem ut3_11_shakes(a b:Nat)(c:Int)(d e f:Bool):HQ 394 [pV a] [Cl a [iV 2,iV b,iV c,.bool false,.bool false,.bool false,.bool false,.bool true,.bool d,.bool e,.bool f] 340] (.bool true) [Cl a [iV 2,iV b,iV c,.bool false,.bool false,.bool false,.bool false,.bool true,.bool d,.bool e,.bool f] 340]:=by
 refine hiS func394 ntmps394 fun g w0 R h0=>go [rd 1 3 0 0 1 h0,rd 1 9 0 0 1 h0] ?_
 exact enR _ [] h0
theorem rdn2_ht(b m:Nat)(cy:Int)(a1 a2 a3:Bool)(hf0:0≤(m:Int)-1)(hf1:0≤ -(m:Int)+4):HQ 466 [pV b] [Cl b [iV 2,iV m,iV cy,.bool false,.bool false,.bool false,.bool false,.bool true,.bool a1,.bool a2,.bool a3] 340] (.bool false) [Cl b [iV 2,iV m,iV cy,.bool false,.bool false,.bool false,.bool false,.bool true,.bool a1,.bool a2,.bool a3] 340]:=by
 refine hiS func466 ntmps466 fun g w0 R h0=>g0<|dw (Tr.fl 0 (Tr.an 1 (fls [2,3] (Tr.an 4 (fls [5,6,7,8,9,10,11,12,13,14,15,16,17] Tr.nil))))) h0 fun _ h11=>g0<|cw1 call232 (ut3_10_valid b m cy a1 a2 a3 om) h11 fun _ h13=>⟨kd [],?_⟩
 refine g0<|cw1 call394 (ut3_11_shakes b m cy a1 a2 a3) h13 fun _ h15=>⟨kd [],?_⟩
 refine go [rd 1 10 0 3 4 h15,rd 1 14 0 7 4 h15,.s 1 15]<|lw (.bool false) (fun _=>law_eqD (x:=Ot 13) (y:=Ot 17) (t:=338) (xs:= #[.bool false,.bool false,.bool false,.bool false]) (ys:= #[.bool true,.bool a1,.bool a2,.bool a3]) kr kr kr kr kr kr kr [.bool false,.bool false,.bool false,.bool false] [.bool true,.bool a1,.bool a2,.bool a3] kr kr (by intro h_;cases congrArg (fun l_:List Lit=>l_[0]?) h_) _) ?_
 refine g0 ?_
 exact enR _ [] h15
theorem ut3_12_valid(b a:Nat)(c:Int)(d e f i j k l m:Bool)(hf0:0≤(a:Int)-1):HQ 232 [pV b] [Cl b [iV 2,iV a,iV c,.bool d,.bool e,.bool f,.bool i,.bool j,.bool k,.bool l,.bool m] 340] (.bool true) [Cl b [iV 2,iV a,iV c,.bool d,.bool e,.bool f,.bool i,.bool j,.bool k,.bool l,.bool m] 340]:=by
 refine hiS func232 ntmps232 fun g w0 R h0=>go [rd 1 6 0 1 1 h0,.v 1 7 (oT ((a:Int)>0))] ?_
 exact enR _ [] h0
theorem ut3_13_find(b c a:Nat)(d:Int)(e f i j k l m o:Bool)(hf0:0≤(a:Int)-(c:Int)-1):HQ 326 [pV b,iV c] [Cl b [iV 2,iV a,iV d,.bool e,.bool f,.bool i,.bool j,.bool k,.bool l,.bool m,.bool o] 340] (iV 0) [Cl b [iV 2,iV a,iV d,.bool e,.bool f,.bool i,.bool j,.bool k,.bool l,.bool m,.bool o] 340]:=by
 refine hiS func326 ntmps326 fun g w0 R h0=>g0<|cl1 call232 (ut3_12_valid b a d e f i j k l m o om) h0 fun _ h11=>go [.v 3 1 (oF ((c:Int)<0)),rd 3 7 0 1 1 h11,.v 3 8 (oF ((c:Int)≥(a:Int)))] ?_
 exact enR _ [] h11
theorem ut3_14_shakes(a b:Nat)(c:Int)(d e f i j k l m:Bool):HQ 394 [pV a] [Cl a [iV 2,iV b,iV c,.bool d,.bool e,.bool f,.bool i,.bool j,.bool k,.bool l,.bool m] 340] (.bool true) [Cl a [iV 2,iV b,iV c,.bool d,.bool e,.bool f,.bool i,.bool j,.bool k,.bool l,.bool m] 340]:=by
 refine hiS func394 ntmps394 fun g w0 R h0=>go [rd 1 3 0 0 1 h0,rd 1 9 0 0 1 h0] ?_
 exact enR _ [] h0
theorem cack2_ht(b m:Nat)(cy:Int)(j:Nat)(a0 a1 a2 a3:Bool)(hf0:0≤(m:Int)-1)(hf1:0≤ -(m:Int)+4)(hf2:0≤(m:Int)-(j:Int)-1):HQ 332 [pV b,iV j] [Cl b [iV 2,iV m,iV cy,.bool (decide (0<(j:Int))),.bool (decide (1<(j:Int))),.bool (decide (2<(j:Int))),.bool (decide (3<(j:Int))),.bool a0,.bool a1,.bool a2,.bool a3] 340] (.tuple #[.bool true,iV 0]) [Cl b [iV 2,iV m,iV cy,.bool (decide (0<(j:Int)+1)),.bool (decide (1<(j:Int)+1)),.bool (decide (2<(j:Int)+1)),.bool (decide (3<(j:Int)+1)),.bool a0,.bool a1,.bool a2,.bool a3] 340]:=by
 refine hiS func332 ntmps332 fun g w0 R h0=>g0<|cl1 call326 (ut3_13_find b j m cy (decide (0<(j:Int))) (decide (1<(j:Int))) (decide (2<(j:Int))) (decide (3<(j:Int))) a0 a1 a2 a3 om) h0 fun _ h11=>g0<|cl1 call394 (ut3_14_shakes b m cy (decide (0<(j:Int))) (decide (1<(j:Int))) (decide (2<(j:Int))) (decide (3<(j:Int))) a0 a1 a2 a3) h11 fun _ h13=>go [.s 6 4]<|lwP (.pointer (some ⟨b,j+3,none⟩)) (law_indexArr (x:=Ot 20) (i:=Ot 18) (b:=b) (off:=3) (z:=(j:Int)) kr underlying338 1 kr j kr kr om om (j+3) om _)<|go [.r 6 5 b (j+3) [.bool false] ⟨sat_cell h13 0 rfl (ck_at (j:=j) rfl om om),trivial⟩,.s 7 4]<|lwP (.pointer (some ⟨b,j+3,none⟩)) (law_indexArr (x:=Ot 27) (i:=Ot 25) (b:=b) (off:=3) (z:=(j:Int)) kr underlying338 1 kr j kr kr om om (j+3) om _) ?_
 refine actG ?_
 refine an_store [(j+3,.bool true)] (cs':= [iV 2,iV m,iV cy,.bool (decide (0<(j:Int)+1)),.bool (decide (1<(j:Int)+1)),.bool (decide (2<(j:Int)+1)),.bool (decide (3<(j:Int)+1)),.bool a0,.bool a1,.bool a2,.bool a3]) kr kr (ck_ok (j:=j) om om) (ck_put (j:=j) rfl om om) h13 ?_
 intro _ h15
 refine nxB<|g0 ?_
 exact enR _ [] h15
theorem ut3_15_valid(c a b d e f:Nat)(i:Option Addr)(j:Nat)(hf0:0≤(a:Int)-1):HQ 152 [pV c] [Cl c [iV a,iV b,pV d,pV e,pV f,.slice i b j] 250] (.bool true) [Cl c [iV a,iV b,pV d,pV e,pV f,.slice i b j] 250]:=by
 refine hiS func152 ntmps152 fun g w0 R h0=>go [rd 1 6 0 0 1 h0,.v 1 7 (oT ((a:Int)>0))] ?_
 exact enR _ [] h0
theorem ut3_16_valid(b a:Nat)(c d:Int)(e f i j k l m o:Bool)(hf0:0≤(a:Int)-1):HQ 232 [pV b] [Cl b [iV c,iV a,iV d,.bool e,.bool f,.bool i,.bool j,.bool k,.bool l,.bool m,.bool o] 340] (.bool true) [Cl b [iV c,iV a,iV d,.bool e,.bool f,.bool i,.bool j,.bool k,.bool l,.bool m,.bool o] 340]:=by
 refine hiS func232 ntmps232 fun g w0 R h0=>go [rd 1 6 0 1 1 h0,.v 1 7 (oT ((a:Int)>0))] ?_
 exact enR _ [] h0
theorem ut3_17_Phase(a b:Nat)(c d:Int)(e f i j k l m o:Bool)(hf0:0≤(b:Int)-1):HQ 153 [pV a] [Cl a [iV c,iV b,iV d,.bool e,.bool f,.bool i,.bool j,.bool k,.bool l,.bool m,.bool o] 340] (iV c) [Cl a [iV c,iV b,iV d,.bool e,.bool f,.bool i,.bool j,.bool k,.bool l,.bool m,.bool o] 340]:=by
 refine hiS func153 ntmps153 fun g w0 R h0=>g0<|cl1 call232 (ut3_16_valid a b c d e f i j k l m o om) h0 fun _ h11=>go [rd 3 3 0 0 1 h11] ?_
 exact enR _ [] h11
theorem mphase(b n m:Nat)(cy ph sn:Int):HQ 291 [pV b] [Mr b n m ph cy sn] (iV ph) [Mr b n m ph cy sn]:=by
 refine hiS func291 ntmps291 fun g w0 R h0=> ?_
 obtain⟨ck10,pt11,sk12,p13,c14,qs15,zz16,yy17,hp18,hp19,hp20,hp21,hp22,hp23,hp24,h25⟩:=Mr_open h0
 have h26:sat g _ (Cl b [iV n,iV m,pV ck10,pV pt11,pV sk12,.slice p13 m c14] 250::_):=h25
 refine g0<|cl1 call152 (ut3_15_valid b n m ck10 pt11 sk12 p13 c14 om) h26 fun _ h28=> ?_
 have h29:=h28.a.t7
 refine go [rd 3 3 0 2 1 h28]<|cl1 call153 (ut3_17_Phase ck10 m ph cy (decide (0<sn)) (decide (1<sn)) (decide (2<sn)) (decide (3<sn)) (decide (0<(m:Int))) (decide (1<(m:Int))) (decide (2<(m:Int))) (decide (3<(m:Int))) om) h29 fun w30 h31=>g0 ?_
 have h33:sat g _ (Mr b n m ph cy sn::_):=Mr_close b n m ph cy sn ck10 pt11 sk12 p13 c14 qs15 zz16 yy17 hp18 hp19 hp20 hp21 hp22 hp23 hp24 h31.a.t7
 exact enR _ [] h33
theorem ut3_18_Cycles(a b:Nat)(d c:Int)(e f i j k l m o:Bool)(hf0:0≤(b:Int)-1):HQ 397 [pV a] [Cl a [iV d,iV b,iV c,.bool e,.bool f,.bool i,.bool j,.bool k,.bool l,.bool m,.bool o] 340] (iV c) [Cl a [iV d,iV b,iV c,.bool e,.bool f,.bool i,.bool j,.bool k,.bool l,.bool m,.bool o] 340]:=by
 refine hiS func397 ntmps397 fun g w0 R h0=>g0<|cl1 call232 (ut3_16_valid a b d c e f i j k l m o om) h0 fun _ h11=>go [rd 3 3 0 2 1 h11] ?_
 exact enR _ [] h11
theorem mcyc(b n m:Nat)(cy ph sn:Int):HQ 342 [pV b] [Mr b n m ph cy sn] (iV cy) [Mr b n m ph cy sn]:=by
 refine hiS func342 ntmps342 fun g w0 R h0=> ?_
 obtain⟨ck10,pt11,sk12,p13,c14,qs15,zz16,yy17,hp18,hp19,hp20,hp21,hp22,hp23,hp24,h25⟩:=Mr_open h0
 have h26:sat g _ (Cl b [iV n,iV m,pV ck10,pV pt11,pV sk12,.slice p13 m c14] 250::_):=h25
 refine g0<|cl1 call152 (ut3_15_valid b n m ck10 pt11 sk12 p13 c14 om) h26 fun _ h28=> ?_
 have h29:=h28.a.t7
 refine go [rd 3 3 0 2 1 h28]<|cl1 call397 (ut3_18_Cycles ck10 m ph cy (decide (0<sn)) (decide (1<sn)) (decide (2<sn)) (decide (3<sn)) (decide (0<(m:Int))) (decide (1<(m:Int))) (decide (2<(m:Int))) (decide (3<(m:Int))) om) h29 fun w30 h31=>g0 ?_
 have h33:sat g _ (Mr b n m ph cy sn::_):=Mr_close b n m ph cy sn ck10 pt11 sk12 p13 c14 qs15 zz16 yy17 hp18 hp19 hp20 hp21 hp22 hp23 hp24 h31.a.t7
 exact enR _ [] h33
theorem ut3_19_made(b a:Nat)(hf0:0≤(a:Int)-1):HQ 246 [pV b] [Cl b ([iV a]++List.replicate 256 (yV 0)) 336] (.bool true) [Cl b ([iV a]++List.replicate 256 (yV 0)) 336]:=by
 refine hiS func246 ntmps246 fun g w0 R h0=>go [rdK 1 6 0 0 1 h0,.v 1 7 (oT ((a:Int)>0))] ?_
 exact enR _ [] h0
theorem ut3_20_Of1(b c d e:Nat)(hf0:0≤ -(c:Int)+255):HQ 488 [.pointer (some ⟨b,c+1,none⟩),pV d] [Cl b ([iV e]++List.replicate 256 (yV 0)) 336,Cl d [iV 0] 3] (iV 0) [Cl b ([iV e]++List.replicate 256 (yV 0)) 336,Cl d [iV 0] 3]:=by
 refine hiS func488 ntmps488 fun g w0 R h0=> ?_
 have h10:=h0.a.t3
 refine go [.r 1 2 b (c+1) [yV 0] ⟨sat_cell h0 0 rfl (run_at (H:= [iV e]) (by show 1≤_;omega) (by show _<1+256;omega)),trivial⟩,.v 1 3 (oIr 0)] ?_
 refine sA [iV 0] h10 fun _ h12=>g0 ?_
 exact enR _ [] h12.a.t3
theorem ut3_21_with(d:Nat)(c:Int)(f e:Nat)(hf0:0≤c)(hf1:0≤(e:Int)-c-1)(hf2:0≤ -c+255):HQ 323 [pV d,iV c,.func (Fn.func 488) #[] #[pV f]] [Cl f [iV 0] 3,Cl d ([iV e]++List.replicate 256 (yV 0)) 336] (iV 0) [Cl f [iV 0] 3,Cl d ([iV e]++List.replicate 256 (yV 0)) 336]:=by
 refine hiS func323 ntmps323 fun g w0 R h0=> ?_
 have h10:=h0.a.t3
 refine g0<|cl1 call246 (ut3_19_made d e om) h10 fun _ h12=> ?_
 obtain⟨kk13,hk14⟩: ∃z_:Nat,c=(z_:Int):=⟨(c).toNat,by omega⟩
 refine go [.v 3 1 (oF (c<0)),rdK 3 7 0 0 1 h12,.v 3 8 (oF (c≥(e:Int))),.s 5 5]<|lwP (.pointer (some ⟨d,kk13+1,none⟩)) (law_indexArr (x:=Ot 26) (i:=Ot 24) (b:=d) (off:=1) (z:=c) kr underlying334 1 kr kk13 kr kr om om (kk13+1) om _)<|cl2 call488 (ut3_20_Of1 d kk13 f e om) h12 fun _ h16=>g0 ?_
 exact enR _ [] h16.a.t3
theorem ut3_22_Of(c:Nat)(b:Int)(d:Nat)(hf0:0≤b)(hf1:0≤(d:Int)-b-1)(hf2:0≤ -b+255):HQ 464 [pV c,iV b] [Cl c ([iV d]++List.replicate 256 (yV 0)) 336] (.tuple #[iV 0,iV 0]) [Cl c ([iV d]++List.replicate 256 (yV 0)) 336]:=by
 refine hiS func464 ntmps464 fun g w0 R h0=>g0<|nP 3 [iV 0] h0 (fun r10 _ h12=> ?_)
 refine sA [iV 0] h12 fun _ h14=>g0<|cl2 call323 (ut3_21_with c b r10 d om om om) h14 fun _ h16=>go [rd 3 0 0 0 1 h16] ?_
 exact enR _ [] (tk2 (sf1 (sf2 h16.a.t3)))
theorem mmark(b n m:Nat)(cy ph sn sl:Int)(hf0:0≤sl)(hf1:0≤(n:Int)-sl-1):HQ 434 [pV b,iV sl] [Mr b n m ph cy sn] (.tuple #[.bool false,iV 0]) [Mr b n m ph cy sn]:=by
 refine hiS func434 ntmps434 fun g w0 R h0=> ?_
 obtain⟨ck10,pt11,sk12,p13,c14,qs15,zz16,yy17,hp18,hp19,hp20,hp21,hp22,hp23,hp24,h25⟩:=Mr_open h0
 have h26:sat g _ (Cl b [iV n,iV m,pV ck10,pV pt11,pV sk12,.slice p13 m c14] 250::_):=h25
 refine g0<|cl1 call152 (ut3_15_valid b n m ck10 pt11 sk12 p13 c14 om) h26 fun _ h28=> ?_
 have h29:=h28.b.t7
 refine go [rd 3 3 0 3 1 h28]<|cl1 call464 (ut3_22_Of pt11 sl n om om om) h29 fun w30 h31=>g0 ?_
 have h33:sat g _ (Mr b n m ph cy sn::_):=Mr_close b n m ph cy sn ck10 pt11 sk12 p13 c14 qs15 zz16 yy17 hp18 hp19 hp20 hp21 hp22 hp23 hp24 h31.b.b.t7
 exact enR _ [] h33
theorem ut3_23_with(b a c:Nat)(hf0:0≤(a:Int)-1):HQ 323 [pV b,iV a,.func (Fn.func 488) #[] #[pV c]] [Cl b ([iV a]++List.replicate 256 (yV 0)) 336] (iV 3) [Cl b ([iV a]++List.replicate 256 (yV 0)) 336]:=by
 refine hiS func323 ntmps323 fun g w0 R h0=>g0<|cl1 call246 (ut3_19_made b a om) h0 fun _ h11=>go [.v 3 1 (oF ((a:Int)<0)),rdK 3 7 0 0 1 h11,.v 3 8 (oT ((a:Int)≥(a:Int)))] ?_
 exact enR _ [] h11
theorem ut3_24_Of(c b:Nat)(hf0:0≤(b:Int)-1):HQ 464 [pV c,iV b] [Cl c ([iV b]++List.replicate 256 (yV 0)) 336] (.tuple #[iV 0,iV 3]) [Cl c ([iV b]++List.replicate 256 (yV 0)) 336]:=by
 refine hiS func464 ntmps464 fun g w0 R h0=>g0<|nP 3 [iV 0] h0 (fun r10 _ h12=> ?_)
 refine sA [iV 0] h12 fun _ h14=> ?_
 have h15:=h14.a.t3
 refine g0<|cl1 call323 (ut3_23_with c b r10 om) h15 fun _ h17=>go [rd 3 0 1 0 1 h17] ?_
 exact enR _ [] h17.B.t2
theorem mmarkx(b n m:Nat)(cy ph sn:Int):HQ 434 [pV b,iV n] [Mr b n m ph cy sn] (.tuple #[.bool false,iV 3]) [Mr b n m ph cy sn]:=by
 refine hiS func434 ntmps434 fun g w0 R h0=> ?_
 obtain⟨ck10,pt11,sk12,p13,c14,qs15,zz16,yy17,hp18,hp19,hp20,hp21,hp22,hp23,hp24,h25⟩:=Mr_open h0
 have h26:sat g _ (Cl b [iV n,iV m,pV ck10,pV pt11,pV sk12,.slice p13 m c14] 250::_):=h25
 refine g0<|cl1 call152 (ut3_15_valid b n m ck10 pt11 sk12 p13 c14 om) h26 fun _ h28=> ?_
 have h29:=h28.b.t7
 refine go [rd 3 3 0 3 1 h28]<|cl1 call464 (ut3_24_Of pt11 n om) h29 fun w30 h31=>g0 ?_
 have h33:sat g _ (Mr b n m ph cy sn::_):=Mr_close b n m ph cy sn ck10 pt11 sk12 p13 c14 qs15 zz16 yy17 hp18 hp19 hp20 hp21 hp22 hp23 hp24 h31.b.b.t7
 exact enR _ [] h33
theorem ut3_25_Bleach1(b c a:Nat)(hf0:0≤ -(c:Int)+255):HQ 492 [.pointer (some ⟨b,c+1,none⟩)] [Cl b ([iV a]++List.replicate 256 (yV 0)) 336] (iV 0) [Cl b ([iV a]++List.replicate 256 (yV 0)) 336]:=by
 refine hiS func492 ntmps492 fun g w0 R h0=>g0 ?_
 refine actG ?_
 refine an_store [(c+1,yV 0)] (cs':=([iV a]++List.replicate 256 (yV 0))) kr kr (run1_ok rfl om) (run_put (H:= [iV a]) (by show 1≤_;omega) (by show _<1+256;omega)) h0 ?_
 intro _ h11
 refine nxB<|g0 ?_
 exact enR _ [] h11
theorem ut3_26_with(c:Nat)(a:Int)(d:Nat)(hf0:0≤a)(hf1:0≤(d:Int)-a-1)(hf2:0≤ -a+255):HQ 323 [pV c,iV a,.func (Fn.func 492) #[] #[]] [Cl c ([iV d]++List.replicate 256 (yV 0)) 336] (iV 0) [Cl c ([iV d]++List.replicate 256 (yV 0)) 336]:=by
 refine hiS func323 ntmps323 fun g w0 R h0=>g0<|cl1 call246 (ut3_19_made c d om) h0 fun _ h11=> ?_
 obtain⟨kk12,hk13⟩: ∃z_:Nat,a=(z_:Int):=⟨(a).toNat,by omega⟩
 refine go [.v 3 1 (oF (a<0)),rdK 3 7 0 0 1 h11,.v 3 8 (oF (a≥(d:Int))),.s 5 5]<|lwP (.pointer (some ⟨c,kk12+1,none⟩)) (law_indexArr (x:=Ot 26) (i:=Ot 24) (b:=c) (off:=1) (z:=a) kr underlying334 1 kr kk12 kr kr om om (kk12+1) om _)<|cl1 call492 (ut3_25_Bleach1 c kk12 d om) h11 fun _ h15=>g0 ?_
 exact enR _ [] h15
theorem ut3_27_Bleach(b:Nat)(a:Int)(c:Nat)(hf0:0≤a)(hf1:0≤(c:Int)-a-1)(hf2:0≤ -a+255):HQ 469 [pV b,iV a] [Cl b ([iV c]++List.replicate 256 (yV 0)) 336] (iV 0) [Cl b ([iV c]++List.replicate 256 (yV 0)) 336]:=by
 refine hiS func469 ntmps469 fun g w0 R h0=>g0<|cl1 call323 (ut3_26_with b a c om om om) h0 fun _ h11=>g0 ?_
 exact enR _ [] h11
theorem mfreed(b n m:Nat)(cy ph sn sl:Int)(hf0:0≤sl)(hf1:0≤(n:Int)-sl-1):HQ 447 [pV b,iV sl] [Mr b n m ph cy sn] (iV 0) [Mr b n m ph cy sn]:=by
 refine hiS func447 ntmps447 fun g w0 R h0=> ?_
 obtain⟨ck10,pt11,sk12,p13,c14,qs15,zz16,yy17,hp18,hp19,hp20,hp21,hp22,hp23,hp24,h25⟩:=Mr_open h0
 have h26:sat g _ (Cl b [iV n,iV m,pV ck10,pV pt11,pV sk12,.slice p13 m c14] 250::_):=h25
 refine g0<|cl1 call152 (ut3_15_valid b n m ck10 pt11 sk12 p13 c14 om) h26 fun _ h28=> ?_
 have h29:=h28.b.t7
 refine go [rd 3 3 0 3 1 h28]<|cl1 call469 (ut3_27_Bleach pt11 sl n om om om) h29 fun w30 h31=>g0 ?_
 have h33:sat g _ (Mr b n m ph cy sn::_):=Mr_close b n m ph cy sn ck10 pt11 sk12 p13 c14 qs15 zz16 yy17 hp18 hp19 hp20 hp21 hp22 hp23 hp24 h31.b.b.t7
 exact enR _ [] h33
theorem mmade(b n m:Nat)(cy sn sl gn:Int)(hf0:0≤sl)(hf1:0≤(n:Int)-sl-1)(hf2:0≤gn-1):HQ 93 [pV b,.agg #[iV sl,uV gn]] [Mr b n m 0 cy sn] (iV 0) [Mr b n m 0 cy sn]:=by
 refine hiS func93 ntmps93 fun g w0 R h0=> ?_
 obtain⟨ck10,pt11,sk12,p13,c14,qs15,zz16,yy17,hp18,hp19,hp20,hp21,hp22,hp23,hp24,h25⟩:=Mr_open h0
 have h26:sat g _ (Cl b [iV n,iV m,pV ck10,pV pt11,pV sk12,.slice p13 m c14] 250::_):=h25
 refine g0<|nP 203 [iV sl,uV gn] h26 (fun r27 _ h29=> ?_)
 have h30:=h29.a.t8
 refine g0<|cl1 call152 (ut3_15_valid b n m ck10 pt11 sk12 p13 c14 om) h30 fun _ h32=>g0<|dw (fls [0,1,2,3,4,5,6,7,8,9,10,11,12,13,14,15,16,17] Tr.nil) h32 fun _ h34=> ?_
 have h35:=h34.b.t8
 refine go [rd 3 1 1 0 1 h34,.v 3 2 (oF (sl<0)),rd 3 5 1 0 1 h34,rd 3 9 0 0 1 h34,.v 3 10 (oF (sl≥(n:Int))),rd 3 14 1 1 1 h34,.v 3 15 (qeF gn 0),rd 5 3 0 2 1 h34]<|cl1 call153 (ut3_17_Phase ck10 m 0 cy (decide (0<sn)) (decide (1<sn)) (decide (2<sn)) (decide (3<sn)) (decide (0<(m:Int))) (decide (1<(m:Int))) (decide (2<(m:Int))) (decide (3<(m:Int))) om) h35 fun w36 h37=>g0 ?_
 have h39:sat g _ (Mr b n m 0 cy sn::_):=Mr_close b n m 0 cy sn ck10 pt11 sk12 p13 c14 qs15 zz16 yy17 hp18 hp19 hp20 hp21 hp22 hp23 hp24 h37.f.f.f.f.d.e.t8
 exact enR _ [] h39.B.t2
theorem bfirst_it(r1 r2 b:Nat)(yy:Int):IT prog 490 [pV r1,pV r2] 0 (fun _=> [iV 0]) [Cl r1 [iV 64] 3,Cl r2 [pV b] 257,Cl b (List.replicate 64 (iV 0)++ [iV yy,iV 0,iV 0,Value.bool true]) 346]:=by
 refine it_in 34 (fun k_=>([(0,.func (Fn.yield k_) #[] #[]),(1,pV r1),(2,pV r2)]:Fr)) func490 kr ntmps490 rfl (fun _=>rfl) ?_
 intro g w0 R k_ J_ E_ hY h0
 have h1:sat g _ (J_ 0::_):=h0
 change WP _ _ (CA f490 []) _ (mk 34 ([(0,.func (Fn.yield k_) #[] #[]),(1,pV r1),(2,pV r2)]:Fr)) _
 refine ySq ?_
 refine gi_drw (id:=0) (ops:=RA f490 [0]) (Tr.fl 0 (Tr.fl 1 (Tr.fl 2 (Tr.fl 3 (Tr.fl 4 (Tr.fl 5 (Tr.fl 6 Tr.nil))))))) kr kr kr kr kr (fun _ _ d _ _ h=>by cases d<;>exact h) h1 ?_
 intro w2 h3
 refine yD _ [(11,iV 0),(10,iV 0),(9,iV 0),(8,.pointer (some ⟨b,66,none⟩)),(7,pV b),(6,pV b),(5,iV 64)] [e2 0 [iV 64],e2 1 [pV b],e0 2,e0 3,e2 4 [iV 0],e1 5 (iV 0),e0 6] [(4,⟨b,66,none⟩,iV 0),(1,⟨r2,0,none⟩,pV b),(0,⟨r1,0,none⟩,iV 64)] [(iV (if 0<64 then 0 else 64),iV 0)] ⟨(ov_int (if_pos om)),trivial⟩ (kC (sat_cell h3 3 rfl rfl) (kC (sat_cell h3 2 rfl rfl) (kC (sat_cell h3 1 rfl rfl) nC))) ?_
 refine yK [(0,.func (Fn.yield k_) #[] #[]),(2,pV r2),(10,iV 0),(11,iV 0)] fun lr4=> ?_
 refine yBk 0 ?_
 refine gi_unr (x:=CA f490 [1,0,0]) 40 kr ?_
 refine ySq ?_
 refine yPl [0] ?_
 refine yB0 [] [0] [(12,.bool false)] (.mk ?_)
 refine yK [(0,.func (Fn.yield k_) #[] #[]),(2,pV r2),(10,iV 0),(11,iV 0),(12,.bool false)] fun lr5=> ?_
 refine ySq ?_
 refine yCf ?_
 refine yEx 0 ?_
 repeat (first|simp only[Exit.inBlock]|simp only[Exit.then])
 refine hi_outn [] (.tuple #[]) [] kr (by intro q hq;cases hq) ⟨⟨_,rfl⟩,?_⟩
 have he_:0=0:=rfl
 exact .inl (he_▸h3)
theorem ut3_28_made(b:Nat)(a:Int)(hf0:0≤a-1):HQ 248 [pV b] [Cl b (List.replicate 64 (iV 0)++ [iV a,iV 0,iV 0,.bool true]) 346] (.bool true) [Cl b (List.replicate 64 (iV 0)++ [iV a,iV 0,iV 0,.bool true]) 346]:=by
 refine hiS func248 ntmps248 fun g w0 R h0=>go [rd 1 6 0 64 1 h0,.v 1 7 (oT (a>0))] ?_
 exact enR _ [] h0
theorem ut3_29_first(a:Nat):HT prog 467 [pV a,iV 64] [] (fun v K=> ∃r13:Nat,∃r10:Nat,v= .func (Fn.func 490) #[] #[pV r13,pV r10]∧K= [Cl r13 [iV 64] 3,Cl r10 [pV a] 257]):=by
 refine hiS func467 ntmps467 fun g w0 R h0=>g0<|nP 257 [pV a] h0 (fun r10 _ h12=> ?_)
 refine nP 3 [iV 64] h12 (fun r13 _ h15=> ?_)
 refine g0 ?_
 exact en (.func (Fn.func 490) #[] #[pV r13,pV r10]) [] ⟨_,_,rfl,⟨r13,r10,rfl,rfl⟩,h15⟩
theorem drain_ht(b:Nat)(yy:Int)(hf0:0≤yy-1)(hf1:0≤ -yy+64):HQ 441 [pV b,iV 64] [Cl b (List.replicate 64 (iV 0)++ [iV yy,iV 0,iV 0,.bool true]) 346] (.tuple #[.slice none 0 0,iV 0]) [Cl b (List.replicate 64 (iV 0)++ [iV yy,iV 0,iV 0,.bool true]) 346]:=by
 refine hiS func441 ntmps441 fun g w0 R h0=>g0<|cl1 call248 (ut3_28_made b yy om) h0 fun _ h11=>g0<|nP 134 [.slice none 0 0] h11 (fun r12 _ h14=> ?_)
 refine g0<|cP call467 (ut3_29_first b) h14 ?_
 rintro v K _ (⟨r15,r16,rfl,rfl⟩) h18
 have h20:=(ap2 h18).c.b.b.t5
 refine g0 ?_
 refine rfS (N:=0) (fun i K=>K= []) (fun c _ K=>False) call490 (bfirst_it r15 r16 b yy) rfl h20 ?_ ?_ ?_
 · intro i_ hi_;exact absurd hi_ (Nat.not_lt_zero _)
 ·
  rintro D21 w22 K_ ⟨rfl⟩ h23
  have h24:sat g _ (pt D21 (Obj.deferred (some []))::_):=h23
  refine g0<|dw (fls [0,1,2,3,4,5,6,7,8,9,10,11,12,13,14] (Tr.an 15 Tr.nil)) h24 fun _ h26=>go [rd 9 4 3 65 1 h26,rd 9 5 4 0 1 h26,rd 9 11 3 64 1 h26,.s 9 12]<|lw (iV 0) (fun _=>law_rem (t:=3) (x:=Ot 30) (y:=Ot 34) kr 0 yy kr kr om 0 (rem_zero _) _) ?_
  have h27:=h26.c.t6
  refine g0<|sG [(65,iV 0)] (List.replicate 64 (iV 0)++ [iV yy,iV 0,iV 0,.bool true]) h27 fun _ h29=>⟨kd [],?_⟩
  refine g0<|dw (fls [0,1,2,3,4,5,6,7,8] (Tr.an 9 Tr.nil)) h29 fun _ h31=>go [rd 10 3 0 66 1 h31,rd 10 4 4 0 1 h31]<|sG [(66,iV 0)] (List.replicate 64 (iV 0)++ [iV yy,iV 0,iV 0,.bool true]) h31 fun _ h33=>⟨kd [],?_⟩
  refine go [rd 11 0 4 0 1 h33] ?_
  refine enD (.tuple #[.slice none 0 0,iV 0]) h33.a.t6 (fun _ _=> []) (fun _ h35=> ?_) [] []
  exact⟨_,_,rfl,⟨rfl,rfl⟩,(tk2 (sf1 (sf5 h35.a.t6)))⟩
 intro _ _ _ _ _ _ hf_;exact hf_.elim
theorem settle_ht(b:Nat)(yy:Int)(hf0:0≤yy-1)(hf1:0≤ -yy+64):HQ 442 [pV b] [Cl b (List.replicate 64 (iV 0)++ [iV yy,iV 0,iV 0,.bool true]) 346] (.tuple #[]) [Cl b (List.replicate 64 (iV 0)++ [iV yy,iV 0,iV 0,.bool true]) 346]:=by
 refine hiS func442 ntmps442 fun g w0 R h0=>g0<|cl1 call248 (ut3_28_made b yy om) h0 fun _ h11=>g0<|sP [(67,.bool true)] (List.replicate 64 (iV 0)++ [iV yy,iV 0,iV 0,.bool true]) h11 fun _ h13=>g0 ?_
 exact enR _ [] h13
theorem drainB(b:Nat)(yy:Int)(i:Nat)(qs:List Nat)(hb:qs[i]? =some b)(hf0:0≤yy-1)(hf1:0≤ -yy+64):HQ 441 [pV b,iV 64] [Bs (List.replicate 64 (iV 0)++ [iV yy,iV 0,iV 0,Value.bool true]) 346 qs] (Value.tuple #[Value.slice none 0 0,iV 0]) [Bs (List.replicate 64 (iV 0)++ [iV yy,iV 0,iV 0,Value.bool true]) 346 qs]:=ht_bs (Q:=fun v=>v=Value.tuple #[Value.slice none 0 0,iV 0]) (drain_ht b yy hf0 hf1) hb
theorem settleB(b:Nat)(yy:Int)(i:Nat)(qs:List Nat)(hb:qs[i]? =some b)(hf0:0≤yy-1)(hf1:0≤ -yy+64):HQ 442 [pV b] [Bs (List.replicate 64 (iV 0)++ [iV yy,iV 0,iV 0,Value.bool true]) 346 qs] (Value.tuple #[]) [Bs (List.replicate 64 (iV 0)++ [iV yy,iV 0,iV 0,Value.bool true]) 346 qs]:=ht_bs (Q:=fun v=>v=Value.tuple #[]) (settle_ht b yy hf0 hf1) hb
theorem ut3_30_to(i a:Nat)(b:Int)(j k l m c d e f:Bool):HQ 457 [pV i,iV 1] [Cl i [iV 0,iV a,iV b,.bool j,.bool k,.bool l,.bool m,.bool c,.bool d,.bool e,.bool f] 340] (.tuple #[]) [Cl i [iV 1,iV a,iV b,.bool false,.bool false,.bool false,.bool false,.bool c,.bool d,.bool e,.bool f] 340]:=by
 refine hiS func457 ntmps457 fun g w0 R h0=>g0<|sP [(0,iV 1)] [iV 1,iV a,iV b,.bool j,.bool k,.bool l,.bool m,.bool c,.bool d,.bool e,.bool f] h0 fun _ h11=>g0<|sP [(3,.bool false),(4,.bool false),(5,.bool false),(6,.bool false)] [iV 1,iV a,iV b,.bool false,.bool false,.bool false,.bool false,.bool c,.bool d,.bool e,.bool f] h11 fun _ h13=>g0 ?_
 exact enR _ [] h13
theorem ut3_31_Begin(a b:Nat)(c:Int)(j k l m d e f i:Bool)(hf0:0≤(b:Int)-1):HQ 427 [pV a] [Cl a [iV 0,iV b,iV c,.bool j,.bool k,.bool l,.bool m,.bool d,.bool e,.bool f,.bool i] 340] (iV 0) [Cl a [iV 1,iV b,iV c,.bool false,.bool false,.bool false,.bool false,.bool d,.bool e,.bool f,.bool i] 340]:=by
 refine hiS func427 ntmps427 fun g w0 R h0=>g0<|cl1 call232 (ut3_16_valid a b 0 c j k l m d e f i om) h0 fun _ h11=>go [rd 3 3 0 0 1 h11]<|cl1 call457 (ut3_30_to a b c j k l m d e f i) h11 fun _ h13=>g0 ?_
 exact enR _ [] h13
theorem mbegin(b n m:Nat)(cy sn:Int):HQ 389 [pV b] [Mr b n m 0 cy sn] (iV 0) [Mr b n m 1 cy 0]:=by
 refine hiS func389 ntmps389 fun g w0 R h0=> ?_
 obtain⟨ck10,pt11,sk12,p13,c14,qs15,zz16,yy17,hp18,hp19,hp20,hp21,hp22,hp23,hp24,h25⟩:=Mr_open h0
 have h26:sat g _ (Cl b [iV n,iV m,pV ck10,pV pt11,pV sk12,.slice p13 m c14] 250::_):=h25
 refine g0<|cl1 call152 (ut3_15_valid b n m ck10 pt11 sk12 p13 c14 om) h26 fun _ h28=> ?_
 have h29:=h28.a.t7
 refine go [rd 3 3 0 2 1 h28]<|cl1 call427 (ut3_31_Begin ck10 m cy (decide (0<sn)) (decide (1<sn)) (decide (2<sn)) (decide (3<sn)) (decide (0<(m:Int))) (decide (1<(m:Int))) (decide (2<(m:Int))) (decide (3<(m:Int))) om) h29 fun w30 h31=>g0 ?_
 have h34:sat g w30 [Cl b [iV n,iV m,pV ck10,pV pt11,pV sk12,.slice p13 m c14] 250,Cl ck10 [iV 1,iV m,iV cy,.bool (decide (0<0)),.bool (decide (1<0)),.bool (decide (2<0)),.bool (decide (3<0)),.bool (decide (0<(m:Int))),.bool (decide (1<(m:Int))),.bool (decide (2<(m:Int))),.bool (decide (3<(m:Int)))] 340,Cl pt11 ([iV n]++List.replicate 256 (yV 0)) 336,Cl sk12 ([.bool false,iV 0,iV zz16]++List.replicate 65 (iV 0)) 344,Sl 257 1 p13 m c14 (fl ePB qs15),Bs (List.replicate 64 (iV 0)++ [iV yy17,iV 0,iV 0,.bool true]) 346 qs15,R]:=h31.a.t7
 have h33:sat g _ (Mr b n m 1 cy 0::_):=Mr_close b n m 1 cy 0 ck10 pt11 sk12 p13 c14 qs15 zz16 yy17 hp18 hp19 hp20 hp21 hp22 hp23 hp24 h34
 exact enR _ [] h33
theorem ut3_32_Phase(d e b c f i:Nat)(j:Option Addr)(k:Nat)(l:Int)(m o p q s t u x:Bool)(hf0:0≤(e:Int)-1)(hf1:0≤(b:Int)-1):HQ 291 [pV d] [Cl d [iV e,iV b,pV c,pV f,pV i,.slice j b k] 250,Cl c [iV 4,iV b,iV l,.bool m,.bool o,.bool p,.bool q,.bool s,.bool t,.bool u,.bool x] 340] (iV 4) [Cl d [iV e,iV b,pV c,pV f,pV i,.slice j b k] 250,Cl c [iV 4,iV b,iV l,.bool m,.bool o,.bool p,.bool q,.bool s,.bool t,.bool u,.bool x] 340]:=by
 refine hiS func291 ntmps291 fun g w0 R h0=>g0<|cl1 call152 (ut3_15_valid d e b c f i j k om) h0 fun _ h11=> ?_
 have h12:=h11.a.t3
 refine go [rd 3 3 0 2 1 h11]<|cl1 call153 (ut3_17_Phase c b 4 l m o p q s t u x om) h12 fun _ h14=>g0 ?_
 exact enR _ [] h14.a.t3
theorem ut3_33_Ended(c d a b e f:Nat)(i:Option Addr)(j:Nat)(k:Int)(l m o p q s t u:Bool)(hf0:0≤(d:Int)-1)(hf1:0≤(a:Int)-1):HQ 437 [pV c] [Cl c [iV d,iV a,pV b,pV e,pV f,.slice i a j] 250,Cl b [iV 4,iV a,iV k,.bool l,.bool m,.bool o,.bool p,.bool q,.bool s,.bool t,.bool u] 340] (.bool true) [Cl c [iV d,iV a,pV b,pV e,pV f,.slice i a j] 250,Cl b [iV 4,iV a,iV k,.bool l,.bool m,.bool o,.bool p,.bool q,.bool s,.bool t,.bool u] 340]:=by
 refine hiS func437 ntmps437 fun g w0 R h0=>g0<|cl2 call291 (ut3_32_Phase c d a b e f i j k l m o p q s t u om om) h0 fun _ h11=>g0 ?_
 exact enR _ [] h11
theorem ut3_34_shakes(a b:Nat)(c:Int)(d e f i j k l m:Bool):HQ 394 [pV a] [Cl a [iV 4,iV b,iV c,.bool d,.bool e,.bool f,.bool i,.bool j,.bool k,.bool l,.bool m] 340] (.bool false) [Cl a [iV 4,iV b,iV c,.bool d,.bool e,.bool f,.bool i,.bool j,.bool k,.bool l,.bool m] 340]:=by
 refine hiS func394 ntmps394 fun g w0 R h0=>go [rd 1 3 0 0 1 h0,rd 1 9 0 0 1 h0] ?_
 exact enR _ [] h0
theorem ut3_35_to(i a:Nat)(b:Int)(j k l m c d e f:Bool):HQ 457 [pV i,iV 5] [Cl i [iV 4,iV a,iV b,.bool j,.bool k,.bool l,.bool m,.bool c,.bool d,.bool e,.bool f] 340] (.tuple #[]) [Cl i [iV 5,iV a,iV b,.bool false,.bool false,.bool false,.bool false,.bool c,.bool d,.bool e,.bool f] 340]:=by
 refine hiS func457 ntmps457 fun g w0 R h0=>g0<|sP [(0,iV 5)] [iV 5,iV a,iV b,.bool j,.bool k,.bool l,.bool m,.bool c,.bool d,.bool e,.bool f] h0 fun _ h11=>g0<|sP [(3,.bool false),(4,.bool false),(5,.bool false),(6,.bool false)] [iV 5,iV a,iV b,.bool false,.bool false,.bool false,.bool false,.bool c,.bool d,.bool e,.bool f] h11 fun _ h13=>g0 ?_
 exact enR _ [] h13
theorem ut3_36_Go(a b:Nat)(c:Int)(j k l m d e f i:Bool)(hf0:0≤(b:Int)-1):HQ 438 [pV a] [Cl a [iV 4,iV b,iV c,.bool j,.bool k,.bool l,.bool m,.bool d,.bool e,.bool f,.bool i] 340] (iV 0) [Cl a [iV 5,iV b,iV c,.bool false,.bool false,.bool false,.bool false,.bool d,.bool e,.bool f,.bool i] 340]:=by
 refine hiS func438 ntmps438 fun g w0 R h0=>g0<|cl1 call232 (ut3_16_valid a b 4 c j k l m d e f i om) h0 fun _ h11=>go [rd 3 3 0 0 1 h11]<|cl1 call394 (ut3_34_shakes a b c j k l m d e f i) h11 fun _ h13=>go [rd 7 3 0 0 1 h13,rd 9 4 0 0 1 h13,.s 9 6]<|lwP (iV 5) (law_rem (t:=3) (x:=Ot 39) (y:=(Operand.const (iV 6))) kr 5 6 kr kr om 5 dc _)<|cl1 call457 (ut3_35_to a b c j k l m d e f i) h13 fun _ h15=>g0 ?_
 exact enR _ [] h15
theorem mgo4(b n m:Nat)(cy sn:Int):HQ 408 [pV b] [Mr b n m 4 cy sn] (iV 0) [Mr b n m 5 cy 0]:=by
 refine hiS func408 ntmps408 fun g w0 R h0=> ?_
 obtain⟨ck10,pt11,sk12,p13,c14,qs15,zz16,yy17,hp18,hp19,hp20,hp21,hp22,hp23,hp24,h25⟩:=Mr_open h0
 have h26:sat g _ (Cl b [iV n,iV m,pV ck10,pV pt11,pV sk12,.slice p13 m c14] 250::_):=h25
 refine g0<|cl1 call152 (ut3_15_valid b n m ck10 pt11 sk12 p13 c14 om) h26 fun _ h28=>g0<|cl2 call437 (ut3_33_Ended b n m ck10 pt11 sk12 p13 c14 cy (decide (0<sn)) (decide (1<sn)) (decide (2<sn)) (decide (3<sn)) (decide (0<(m:Int))) (decide (1<(m:Int))) (decide (2<(m:Int))) (decide (3<(m:Int))) om om) h28 fun _ h30=> ?_
 have h31:=h30.a.t7
 refine go [rd 5 3 0 2 1 h30]<|cl1 call438 (ut3_36_Go ck10 m cy (decide (0<sn)) (decide (1<sn)) (decide (2<sn)) (decide (3<sn)) (decide (0<(m:Int))) (decide (1<(m:Int))) (decide (2<(m:Int))) (decide (3<(m:Int))) om) h31 fun _ h33=>go [rd 6 6 1 2 1 h33]<|cl1 call153 (ut3_17_Phase ck10 m 5 cy false false false false (decide (0<(m:Int))) (decide (1<(m:Int))) (decide (2<(m:Int))) (decide (3<(m:Int))) om) h33 fun w34 h35=>g0 ?_
 have h38:sat g w34 [Cl b [iV n,iV m,pV ck10,pV pt11,pV sk12,.slice p13 m c14] 250,Cl ck10 [iV 5,iV m,iV cy,.bool (decide (0<0)),.bool (decide (1<0)),.bool (decide (2<0)),.bool (decide (3<0)),.bool (decide (0<(m:Int))),.bool (decide (1<(m:Int))),.bool (decide (2<(m:Int))),.bool (decide (3<(m:Int)))] 340,Cl pt11 ([iV n]++List.replicate 256 (yV 0)) 336,Cl sk12 ([.bool false,iV 0,iV zz16]++List.replicate 65 (iV 0)) 344,Sl 257 1 p13 m c14 (fl ePB qs15),Bs (List.replicate 64 (iV 0)++ [iV yy17,iV 0,iV 0,.bool true]) 346 qs15,R]:=h35.a.t7
 have h37:sat g _ (Mr b n m 5 cy 0::_):=Mr_close b n m 5 cy 0 ck10 pt11 sk12 p13 c14 qs15 zz16 yy17 hp18 hp19 hp20 hp21 hp22 hp23 hp24 h38
 exact enR _ [] h37
theorem ut3_37_Phase(d e b c f i:Nat)(j:Option Addr)(k:Nat)(l:Int)(m o p q s t u x:Bool)(hf0:0≤(e:Int)-1)(hf1:0≤(b:Int)-1):HQ 291 [pV d] [Cl d [iV e,iV b,pV c,pV f,pV i,.slice j b k] 250,Cl c [iV 5,iV b,iV l,.bool m,.bool o,.bool p,.bool q,.bool s,.bool t,.bool u,.bool x] 340] (iV 5) [Cl d [iV e,iV b,pV c,pV f,pV i,.slice j b k] 250,Cl c [iV 5,iV b,iV l,.bool m,.bool o,.bool p,.bool q,.bool s,.bool t,.bool u,.bool x] 340]:=by
 refine hiS func291 ntmps291 fun g w0 R h0=>g0<|cl1 call152 (ut3_15_valid d e b c f i j k om) h0 fun _ h11=> ?_
 have h12:=h11.a.t3
 refine go [rd 3 3 0 2 1 h11]<|cl1 call153 (ut3_17_Phase c b 5 l m o p q s t u x om) h12 fun _ h14=>g0 ?_
 exact enR _ [] h14.a.t3
theorem ut3_38_Ended(c d a b e f:Nat)(i:Option Addr)(j:Nat)(k:Int)(l m o p q s t u:Bool)(hf0:0≤(d:Int)-1)(hf1:0≤(a:Int)-1):HQ 437 [pV c] [Cl c [iV d,iV a,pV b,pV e,pV f,.slice i a j] 250,Cl b [iV 5,iV a,iV k,.bool l,.bool m,.bool o,.bool p,.bool q,.bool s,.bool t,.bool u] 340] (.bool true) [Cl c [iV d,iV a,pV b,pV e,pV f,.slice i a j] 250,Cl b [iV 5,iV a,iV k,.bool l,.bool m,.bool o,.bool p,.bool q,.bool s,.bool t,.bool u] 340]:=by
 refine hiS func437 ntmps437 fun g w0 R h0=>g0<|cl2 call291 (ut3_37_Phase c d a b e f i j k l m o p q s t u om om) h0 fun _ h11=>g0 ?_
 exact enR _ [] h11
theorem ut3_39_shakes(a b:Nat)(c:Int)(d e f i j k l m:Bool):HQ 394 [pV a] [Cl a [iV 5,iV b,iV c,.bool d,.bool e,.bool f,.bool i,.bool j,.bool k,.bool l,.bool m] 340] (.bool false) [Cl a [iV 5,iV b,iV c,.bool d,.bool e,.bool f,.bool i,.bool j,.bool k,.bool l,.bool m] 340]:=by
 refine hiS func394 ntmps394 fun g w0 R h0=>go [rd 1 3 0 0 1 h0,rd 1 9 0 0 1 h0] ?_
 exact enR _ [] h0
theorem ut3_40_to(i a:Nat)(b:Int)(j k l m c d e f:Bool):HQ 457 [pV i,iV 0] [Cl i [iV 5,iV a,iV (b+1),.bool j,.bool k,.bool l,.bool m,.bool c,.bool d,.bool e,.bool f] 340] (.tuple #[]) [Cl i [iV 0,iV a,iV (b+1),.bool false,.bool false,.bool false,.bool false,.bool c,.bool d,.bool e,.bool f] 340]:=by
 refine hiS func457 ntmps457 fun g w0 R h0=>g0<|sP [(0,iV 0)] [iV 0,iV a,iV (b+1),.bool j,.bool k,.bool l,.bool m,.bool c,.bool d,.bool e,.bool f] h0 fun _ h11=>g0<|sP [(3,.bool false),(4,.bool false),(5,.bool false),(6,.bool false)] [iV 0,iV a,iV (b+1),.bool false,.bool false,.bool false,.bool false,.bool c,.bool d,.bool e,.bool f] h11 fun _ h13=>g0 ?_
 exact enR _ [] h13
theorem ut3_41_Go(c b:Nat)(a:Int)(j k l m d e f i:Bool)(hf0:0≤(b:Int)-1)(hf1:0≤a+9223372036854775809)(hf2:0≤ -a+9223372036854775806):HQ 438 [pV c] [Cl c [iV 5,iV b,iV a,.bool j,.bool k,.bool l,.bool m,.bool d,.bool e,.bool f,.bool i] 340] (iV 0) [Cl c [iV 0,iV b,iV (a+1),.bool false,.bool false,.bool false,.bool false,.bool d,.bool e,.bool f,.bool i] 340]:=by
 refine hiS func438 ntmps438 fun g w0 R h0=>g0<|cl1 call232 (ut3_16_valid c b 5 a j k l m d e f i om) h0 fun _ h11=>go [rd 3 3 0 0 1 h11]<|cl1 call394 (ut3_39_shakes c b a j k l m d e f i) h11 fun _ h13=>go [rd 7 3 0 0 1 h13,rd 8 3 0 2 1 h13,.v 8 4 (oIr (a+1))]<|sP [(2,iV (a+1))] [iV 5,iV b,iV (a+1),.bool j,.bool k,.bool l,.bool m,.bool d,.bool e,.bool f,.bool i] h13 fun _ h15=>go [rd 9 4 0 0 1 h15,.s 9 6]<|lwP (iV 0) (law_rem (t:=3) (x:=Ot 39) (y:=(Operand.const (iV 6))) kr 6 6 kr kr om 0 dc _)<|cl1 call457 (ut3_40_to c b a j k l m d e f i) h15 fun _ h17=>g0 ?_
 exact enR _ [] h17
theorem ut3_42_Clear(c d:Nat)(hf0:0≤(d:Int)-1):HQ 439 [pV c] [Cl c ([iV d]++List.replicate 256 (yV 0)) 336] (.tuple #[]) [Cl c ([iV d]++List.replicate 256 (yV 0)) 336]:=by
 refine hiS func439 ntmps439 fun g w0 R h0=>g0<|cl1 call246 (ut3_19_made c d om) h0 fun _ h11=>go [.s 1 3]<|lwP (.slice (some ⟨c,1,none⟩) 256 256) (law_sliceArr (x:=Ot 6) (lo:=none) (hi:=none) (b:=c) (off:=1) kr underlying334 1 kr 0 256 0 256 kr rfl rfl om om om om 1 (by split<;>omega) 256 256 om om _) ?_
 refine actG ?_
 refine an_clear0 (x:=Ot 7) (a:=iV d) (z:=yV 0) (m:=256) kr kr underlying403 kr rfl rfl dc h11 kr ?_
 intro _ h13
 refine nxB<|g0 ?_
 exact enR _ [] h13
theorem ut3_43_valid(b:Nat)(a:Int)(hf0:0≤a-1):HQ 247 [pV b] [Cl b ([.bool false,iV 0,iV a]++List.replicate 65 (iV 0)) 344] (.bool true) [Cl b ([.bool false,iV 0,iV a]++List.replicate 65 (iV 0)) 344]:=by
 refine hiS func247 ntmps247 fun g w0 R h0=>go [rd 1 6 0 2 1 h0,.v 1 7 (oT (a>0))] ?_
 exact enR _ [] h0
theorem ut3_44_Clear(b:Nat)(a:Int)(hf0:0≤a-1):HQ 440 [pV b] [Cl b ([.bool false,iV 0,iV a]++List.replicate 65 (iV 0)) 344] (.tuple #[]) [Cl b ([.bool false,iV 0,iV a]++List.replicate 65 (iV 0)) 344]:=by
 refine hiS func440 ntmps440 fun g w0 R h0=>g0<|cl1 call247 (ut3_43_valid b a om) h0 fun _ h11=>g0<|sP [(3,iV 0)] ([.bool false,iV 0,iV a]++List.replicate 65 (iV 0)) h11 fun _ h13=>g0<|sP [(0,.bool false),(1,iV 0)] ([.bool false,iV 0,iV a]++List.replicate 65 (iV 0)) h13 fun _ h15=>g0 ?_
 exact enR _ [] h15
theorem mgo5(b n m:Nat)(cy sn:Int)(hf0:0≤cy)(hf1:0≤ -cy+1000000):HQ 408 [pV b] [Mr b n m 5 cy sn] (iV 0) [Mr b n m 0 (cy+1) 0]:=by
 refine hiS func408 ntmps408 fun g w0 R h0=> ?_
 obtain⟨ck10,pt11,sk12,p13,c14,qs15,zz16,yy17,hp18,hp19,hp20,hp21,hp22,hp23,hp24,h25⟩:=Mr_open h0
 have h26:sat g _ (Cl b [iV n,iV m,pV ck10,pV pt11,pV sk12,.slice p13 m c14] 250::_):=h25
 refine g0<|cl1 call152 (ut3_15_valid b n m ck10 pt11 sk12 p13 c14 om) h26 fun _ h28=>g0<|cl2 call437 (ut3_38_Ended b n m ck10 pt11 sk12 p13 c14 cy (decide (0<sn)) (decide (1<sn)) (decide (2<sn)) (decide (3<sn)) (decide (0<(m:Int))) (decide (1<(m:Int))) (decide (2<(m:Int))) (decide (3<(m:Int))) om om) h28 fun _ h30=> ?_
 have h31:=h30.a.t7
 refine go [rd 5 3 0 2 1 h30]<|cl1 call438 (ut3_41_Go ck10 m cy (decide (0<sn)) (decide (1<sn)) (decide (2<sn)) (decide (3<sn)) (decide (0<(m:Int))) (decide (1<(m:Int))) (decide (2<(m:Int))) (decide (3<(m:Int))) om om om) h31 fun _ h33=>go [rd 6 6 1 2 1 h33]<|cl1 call153 (ut3_17_Phase ck10 m 0 (cy+1) false false false false (decide (0<(m:Int))) (decide (1<(m:Int))) (decide (2<(m:Int))) (decide (3<(m:Int))) om) h33 fun _ h35=> ?_
 have h36:=h35.b.t7
 refine go [rd 8 3 1 3 1 h35]<|cl1 call439 (ut3_42_Clear pt11 n om) h36 fun _ h38=> ?_
 have h39:=h38.c.t7
 refine go [rd 9 3 2 4 1 h38]<|cl1 call440 (ut3_44_Clear sk12 zz16 om) h39 fun _ h41=>go [rd 10 3 3 5 1 h41] ?_
 refine lpS (fun mz_ a w=> ∃i:Nat,∃lr:Fr,mz_=m-i∧(i≤m)∧a=mk 54 (([(43,.slice p13 m c14),(44,iV m),(45,iV i)]:Fr)++lr)∧sat g w [Cl sk12 ([.bool false,iV 0,iV zz16]++List.replicate 65 (iV 0)) 344,Cl pt11 ([iV n]++List.replicate 256 (yV 0)) 336,Cl ck10 [iV 0,iV m,iV (cy+1),.bool false,.bool false,.bool false,.bool false,.bool (decide (0<(m:Int))),.bool (decide (1<(m:Int))),.bool (decide (2<(m:Int))),.bool (decide (3<(m:Int)))] 340,Cl b [iV n,iV m,pV ck10,pV pt11,pV sk12,.slice p13 m c14] 250,Sl 257 1 p13 m c14 (fl ePB qs15),Bs (List.replicate 64 (iV 0)++ [iV yy17,iV 0,iV 0,.bool true]) 346 qs15,R]) (m-0) ⟨0,_,rfl,(Nat.zero_le _),(lvF [.k 43 (.slice p13 m c14),.k 44 (iV m),.o 45 (oJ .i64 0 (0:Int))]),h41⟩ ?_
 rintro m43 a44 w45 ⟨i,lr42,rfl,hi_,rfl,h46⟩
 refine ga<|go [.s 11 0] ?_
 by_cases c47:(i:Int)<(m:Int)
 ·
  obtain⟨b48,hp49⟩:=sl_ptr0 (j:=4) h46 rfl om
  refine go [.v 11 0 (oT _ c47),.s 12 0]<|lwP (.pointer (some ⟨b48,i,none⟩)) (liP (Ot 43) (Ot 45) p13 b48 0 (i:Int) m c14 underlying248 1 i hp49 i) ?_
  have h50:=h46.d.t7
  have hl51:=fl_n ePB_ok dc h50
  obtain⟨x52,hx53⟩: ∃x,qs15[i]? =some x:=⟨_,List.getElem?_eq_getElem (by rw[hl51];omega)⟩
  have h54:=h50.e.t7
  refine go [.r 12 1 b48 i [pV x52] ⟨gvc 0 h50 rfl hp49 ePB_ok 0 (pV x52) hx53 i,trivial⟩]<|cl1 call441 (drainB x52 yy17 i qs15 hx53 om om) h54 fun _ h56=>g0<|cl1 call442 (settleB x52 yy17 i qs15 hx53 om om) h56 fun _ h58=>go [.v 15 0 (oIr ((i:Int)+1))] ?_
  refine enL ?_
  have h59:=h58.a.e.e.e.e.t7
  change ∃n',n'<_∧_
  refine⟨(m-(i+1)),by omega,(i+1),_,rfl,om,(lvF [.k 43 (.slice p13 m c14),.k 44 (iV m),.o 45 (oJ .i64 ((i:Int)+1) (((i+1):Nat):Int))]),h59⟩
 refine go [.v 11 0 (oF _ c47)]<|up<|g0 ?_
 have h62:sat g w45 [Cl b [iV n,iV m,pV ck10,pV pt11,pV sk12,.slice p13 m c14] 250,Cl ck10 [iV 0,iV m,iV (cy+1),.bool (decide (0<0)),.bool (decide (1<0)),.bool (decide (2<0)),.bool (decide (3<0)),.bool (decide (0<(m:Int))),.bool (decide (1<(m:Int))),.bool (decide (2<(m:Int))),.bool (decide (3<(m:Int)))] 340,Cl pt11 ([iV n]++List.replicate 256 (yV 0)) 336,Cl sk12 ([.bool false,iV 0,iV zz16]++List.replicate 65 (iV 0)) 344,Sl 257 1 p13 m c14 (fl ePB qs15),Bs (List.replicate 64 (iV 0)++ [iV yy17,iV 0,iV 0,.bool true]) 346 qs15,R]:=h46.a.b.c.t7
 have h61:sat g _ (Mr b n m 0 (cy+1) 0::_):=Mr_close b n m 0 (cy+1) 0 ck10 pt11 sk12 p13 c14 qs15 zz16 yy17 hp18 hp19 hp20 hp21 hp22 hp23 hp24 h62
 exact enR _ [] h61
theorem grey_it(r1 r2 b n:Nat)(hf0:0≤(n:Int)-1)(hf1:0≤ -(n:Int)+256):IT prog 505 [pV r1,pV r2] 0 (fun _=> [iV 0]) [Cl r1 [pV b] 246,Cl r2 [iV 0] 3,Cl b ([iV n]++List.replicate 256 (yV 0)) 336]:=by
 refine itS func505 ntmps505 fun g w0 R k_ J_ E_ hY h0=> ?_
 have h10:sat g _ (J_ 0::_):=h0
 have h11:=h10.c.t5
 refine go [rd 0 0 1 0 1 h10]<|cl1 call246 (ut3_19_made b n om) h11 fun _ h13=>go [rd 1 0 3 0 1 h13,.v 1 1 (⟨iV (if 0<0 then 0 else 0),iV 0,(ov_int (if_neg om))⟩)] ?_
 refine lpS (fun mz_ a w=> ∃i:Nat,∃lr:Fr,mz_=n-i∧(i≤n)∧a=mk 31 (([(0,.func (Fn.yield k_) #[] #[]),(1,pV r1),(4,iV i)]:Fr)++lr)∧sat g w [Cl b ([iV n]++List.replicate 256 (yV 0)) 336,J_ 0,Cl r1 [pV b] 246,Cl r2 [iV 0] 3,R]) (n-0) ⟨0,_,rfl,(Nat.zero_le _),(lvF [.k 0 (.func (Fn.yield k_) #[] #[]),.k 1 (pV r1),.o 4 (oJ .i64 0 (0:Int))]),h13⟩ ?_
 rintro m15 a16 w17 ⟨i,lr14,rfl,hi_,rfl,h18⟩
 refine ga<|go [rd 2 1 2 0 1 h18,rdK 2 4 0 0 1 h18,.s 2 5] ?_
 by_cases c19:(i:Int)<(n:Int)
 ·
  refine go [.v 2 5 (oT _ c19),.s 4 99999] ?_
  refine plS 10<|go [rd 4 0 2 0 1 h18,.s 4 4]<|lwP (.pointer (some ⟨b,i+1,none⟩)) (law_indexArr (x:=Ot 21) (i:=Ot 19) (b:=b) (off:=1) (z:=(i:Int)) kr underlying334 1 kr i kr kr om om (i+1) om _)<|go [.r 4 5 b (i+1) [yV 0] ⟨sat_cell h18 0 rfl (run_at (H:= [iV n]) (by show 1≤_;omega) (by show _<1+256;omega)),trivial⟩] ?_
  refine yN 4<|go [.v 3 1 (oIr ((i:Int)+1))] ?_
  exact enN (n-(i+1)) ⟨(i+1),_,rfl,om,(lvF [.k 0 (.func (Fn.yield k_) #[] #[]),.k 1 (pV r1),.o 4 (oJ .i64 ((i:Int)+1) (((i+1):Nat):Int))]),h18⟩
 refine go [.v 2 5 (oF _ c19)]<|up<|g0 ?_
 have h20:=h18.c.c.c.t5
 have he_:0=0:=rfl
 exact en (.tuple #[]) [] ⟨⟨_,rfl⟩,.inl (he_▸h20)⟩
theorem ut3_45_check(d e f b c i j:Nat)(k:Option Addr)(l:Nat)(m:List Sl2)(o:Nat)(p:Int)(hf0:0≤(c:Int)-1):HQ 331 [pV d,pV e] [Cl d [iV c,iV b,pV f,pV i,pV j,.slice k b l] 250,Ar1 e c b m o p] (iV 0) [Cl d [iV c,iV b,pV f,pV i,pV j,.slice k b l] 250,Ar1 e c b m o p]:=by
 refine hiS func331 ntmps331 fun g w0 R h0=>g0<|cl1 call152 (ut3_15_valid d c b f i j k l om) h0 fun _ h11=> ?_
 have h12:=h11.a.t3
 refine g0<|cl1 call289 (asizes1 e c b m o p) h12 fun _ h14=>go [.v 4 1 (qeF (c:Int) 0),rd 6 4 1 0 1 h14,.v 6 5 (qnF (c:Int) (c:Int)),rd 6 11 1 1 1 h14,.v 6 12 (qnF (b:Int) (b:Int))] ?_
 exact enR _ [] h14.a.t3
theorem ut3_46_steps:HQ 433 [] [] (.agg #[.func (Fn.func 460) #[] #[],.func (Fn.func 461) #[] #[],.func (Fn.func 462) #[] #[],.func (Fn.func 463) #[] #[],.func (Fn.func 460) #[] #[],.func (Fn.func 460) #[] #[]]) []:=by
 refine hiS func433 ntmps433 fun g w0 R h0=>g0<|nP 545 [Value.nilFunc,Value.nilFunc,Value.nilFunc,Value.nilFunc,Value.nilFunc,Value.nilFunc] h0 (fun _ _ h12=> ?_)
 refine g0<|sA [.func (Fn.func 460) #[] #[],.func (Fn.func 461) #[] #[],.func (Fn.func 462) #[] #[],.func (Fn.func 463) #[] #[],.func (Fn.func 460) #[] #[],.func (Fn.func 460) #[] #[]] h12 fun _ h14=>g0 ?_
 exact enR _ [rd 0 0 0 0 6 h14] h14.a.t1
theorem ut3_47_to(i e:Nat)(f:Int)(a b c d:Bool):HQ 457 [pV i,iV 2] [Cl i [iV 1,iV e,iV f,.bool a,.bool b,.bool c,.bool d,.bool a,.bool b,.bool c,.bool d] 340] (.tuple #[]) [Cl i [iV 2,iV e,iV f,.bool false,.bool false,.bool false,.bool false,.bool a,.bool b,.bool c,.bool d] 340]:=by
 refine hiS func457 ntmps457 fun g w0 R h0=>g0<|sP [(0,iV 2)] [iV 2,iV e,iV f,.bool a,.bool b,.bool c,.bool d,.bool a,.bool b,.bool c,.bool d] h0 fun _ h11=>g0<|sP [(3,.bool false),(4,.bool false),(5,.bool false),(6,.bool false)] [iV 2,iV e,iV f,.bool false,.bool false,.bool false,.bool false,.bool a,.bool b,.bool c,.bool d] h11 fun _ h13=>g0 ?_
 exact enR _ [] h13
theorem ut3_48_Go(b a:Nat)(i:Int)(c d e f:Bool)(hf0:0≤(a:Int)-1)(hf1:0≤ -(a:Int)+4):HQ 438 [pV b] [Cl b [iV 1,iV a,iV i,.bool c,.bool d,.bool e,.bool f,.bool c,.bool d,.bool e,.bool f] 340] (iV 0) [Cl b [iV 2,iV a,iV i,.bool false,.bool false,.bool false,.bool false,.bool c,.bool d,.bool e,.bool f] 340]:=by
 refine hiS func438 ntmps438 fun g w0 R h0=>g0<|cl1 call232 (ut3_1_valid b a i c d e f om) h0 fun _ h11=>go [rd 3 3 0 0 1 h11]<|cl1 call394 (ut3_2_shakes b a i c d e f) h11 fun _ h13=>g0<|cl1 call466 (rdy1_ht b a i c d e f om om) h13 fun _ h15=>go [rd 7 3 0 0 1 h15,rd 9 4 0 0 1 h15,.s 9 6]<|lwP (iV 2) (law_rem (t:=3) (x:=Ot 39) (y:=(Operand.const (iV 6))) kr 2 6 kr kr om 2 dc _)<|cl1 call457 (ut3_47_to b a i c d e f) h15 fun _ h17=>g0 ?_
 exact enR _ [] h17
theorem ut3_49_shader(f c i b:Nat)(d:List Sl2)(e:Nat)(j:Int):HT prog 333 [pV f,pV c] [Ar1 c b i d e j] (fun v K=> ∃r19:Nat,∃r10:Nat,∃h13:Nat,∃t14:Nat,v= .func (Fn.func 395) #[] #[pV r19,pV r10]∧K= [Ar1 c b i d e j,Cl r19 [pV h13] 138,Cl h13 (pV t14::iV b::fl eHo (F256.set e true)) 237,Tb t14 b d,Cl r10 [pV f] 151]):=by
 refine hiS func333 ntmps333 fun g w0 R h0=>g0<|nP 151 [pV f] h0 (fun r10 _ h12=> ?_)
 have h15:=h12.a.t3
 refine g0<|cP call266 (aheap1 c b i d e j) h15 ?_
 rintro v K _ (⟨h13,t14,rfl,rfl⟩) h17
 refine nP 138 [.pointer none] (ap3 h17) (fun r19 _ h21=> ?_)
 refine sA [pV h13] h21 fun _ h23=>g0 ?_
 exact en (.func (Fn.func 395) #[] #[pV r19,pV r10]) [] ⟨_,_,rfl,⟨r19,r10,h13,t14,rfl,rfl⟩,h23.a.t6⟩
theorem ut3_50_shader1(a b:Nat):HQ 395 [.slice none 0 0,pV a,pV b] [] (.tuple #[]) []:=by
 refine hiS func395 ntmps395 fun g w0 R h0=>g0<|unS 39<|g0<|up<|g0 ?_
 exact enR _ [] h0
theorem ut3_51_shake(m e c a:Nat)(o:Int)(i j k l:Bool)(d t u:Nat)(x:Option Addr)(y:Nat)(p:List Sl2)(q:Nat)(s:Int)(hf0:0≤(a:Int)-1)(hf1:0≤ -(a:Int)+4):HQ 461 [pV m,pV e] [Cl c [iV 1,iV a,iV o,.bool i,.bool j,.bool k,.bool l,.bool i,.bool j,.bool k,.bool l] 340,Cl m [iV d,iV a,pV c,pV t,pV u,.slice x a y] 250,Ar1 e d a p q s] (.tuple #[]) [Cl c [iV 2,iV a,iV o,.bool false,.bool false,.bool false,.bool false,.bool i,.bool j,.bool k,.bool l] 340,Cl m [iV d,iV a,pV c,pV t,pV u,.slice x a y] 250,Ar1 e d a p q s]:=by
 refine hiS func461 ntmps461 fun g w0 R h0=>go [rd 0 3 1 2 1 h0]<|cl1 call466 (rdy1_ht c a o i j k l om om) h0 fun _ h11=>go [rd 1 3 1 2 1 h11]<|cl1 call438 (ut3_48_Go c a o i j k l om om) h11 fun _ h13=> ?_
 have h18:=h13.b.t4
 refine g0<|cP call333 (ut3_49_shader m e a d p q s) h18 ?_
 rintro v K _ (⟨r14,r15,h16,t17,rfl,rfl⟩) h20
 have h21:=ap5 h20
 refine g0<|cl1 call484 (aglob1 e d a p q s) h21 fun _ h23=>cl0 call395 (ut3_50_shader1 r14 r15) h23 fun _ h25=>g0 ?_
 exact enR _ [] (tk4 (sf3 (sf3 (sf3 (sf7 h25.f.f.t8)))))
theorem mst1(b n m:Nat)(cy:Int)(ar:Nat)(A:List Sl2)(s:Nat)(gn:Int):HQ 405 [pV b,pV ar] [Mr b n m 1 cy (m:Int),Ar1 ar n m A s gn] (iV 0) [Mr b n m 2 cy 0,Ar1 ar n m A s gn]:=by
 refine hiS func405 ntmps405 fun g w0 R h0=> ?_
 obtain⟨ck10,pt11,sk12,p13,c14,qs15,zz16,yy17,hp18,hp19,hp20,hp21,hp22,hp23,hp24,h25⟩:=Mr_open h0
 have h26:sat g _ (Cl b [iV n,iV m,pV ck10,pV pt11,pV sk12,.slice p13 m c14] 250::_):=h25
 have h28:=tk8 (sf7 (sf7 (sf5 (sf6 (sf6 (sf6 (sf6 (sf7 h26.a.t8))))))))
 refine g0<|cl2 call331 (ut3_45_check b ar ck10 m n pt11 sk12 p13 c14 A s gn om) h28 fun _ h30=>g0<|dw (fls [1,2,3,4,7,8] (Tr.an 0 (Tr.an 5 (Tr.fl 6 (Tr.an 9 Tr.nil))))) h30 fun _ h32=>go [rd 4 4 0 2 1 h32]<|cw0 call433 ut3_46_steps h32 fun _ h34=>⟨kd [rd 0 4 0 2 1 h34],?_⟩
 refine cw1 call153 (ut3_17_Phase ck10 m 1 cy (decide (0<(m:Int))) (decide (1<(m:Int))) (decide (2<(m:Int))) (decide (3<(m:Int))) (decide (0<(m:Int))) (decide (1<(m:Int))) (decide (2<(m:Int))) (decide (3<(m:Int))) om) h34.b.t8 fun _ h37=>⟨kd [],?_⟩
 refine g0<|cw3 call461 (ut3_51_shake b ar ck10 m cy (decide (0<(m:Int))) (decide (1<(m:Int))) (decide (2<(m:Int))) (decide (3<(m:Int))) n pt11 sk12 p13 c14 A s gn om om) h37 fun w38 h39=>⟨kd [],?_⟩
 refine g0 ?_
 have h42:sat g w38 [Cl b [iV n,iV m,pV ck10,pV pt11,pV sk12,.slice p13 m c14] 250,Cl ck10 [iV 2,iV m,iV cy,.bool (decide (0<0)),.bool (decide (1<0)),.bool (decide (2<0)),.bool (decide (3<0)),.bool (decide (0<(m:Int))),.bool (decide (1<(m:Int))),.bool (decide (2<(m:Int))),.bool (decide (3<(m:Int)))] 340,Cl pt11 ([iV n]++List.replicate 256 (yV 0)) 336,Cl sk12 ([.bool false,iV 0,iV zz16]++List.replicate 65 (iV 0)) 344,Sl 257 1 p13 m c14 (fl ePB qs15),Bs (List.replicate 64 (iV 0)++ [iV yy17,iV 0,iV 0,.bool true]) 346 qs15,Ar1 ar n m A s gn,R]:=h39.f.f.f.f.d.e.t8
 have h41:sat g _ (Mr b n m 2 cy 0::_):=Mr_close b n m 2 cy 0 ck10 pt11 sk12 p13 c14 qs15 zz16 yy17 hp18 hp19 hp20 hp21 hp22 hp23 hp24 h42
 exact enR _ [] h41
theorem ut3_52_to(i e:Nat)(f:Int)(a b c d:Bool):HQ 457 [pV i,iV 3] [Cl i [iV 2,iV e,iV f,.bool a,.bool b,.bool c,.bool d,.bool a,.bool b,.bool c,.bool d] 340] (.tuple #[]) [Cl i [iV 3,iV e,iV f,.bool false,.bool false,.bool false,.bool false,.bool a,.bool b,.bool c,.bool d] 340]:=by
 refine hiS func457 ntmps457 fun g w0 R h0=>g0<|sP [(0,iV 3)] [iV 3,iV e,iV f,.bool a,.bool b,.bool c,.bool d,.bool a,.bool b,.bool c,.bool d] h0 fun _ h11=>g0<|sP [(3,.bool false),(4,.bool false),(5,.bool false),(6,.bool false)] [iV 3,iV e,iV f,.bool false,.bool false,.bool false,.bool false,.bool a,.bool b,.bool c,.bool d] h11 fun _ h13=>g0 ?_
 exact enR _ [] h13
theorem ut3_53_Go(b a:Nat)(i:Int)(c d e f:Bool)(hf0:0≤(a:Int)-1)(hf1:0≤ -(a:Int)+4):HQ 438 [pV b] [Cl b [iV 2,iV a,iV i,.bool c,.bool d,.bool e,.bool f,.bool c,.bool d,.bool e,.bool f] 340] (iV 0) [Cl b [iV 3,iV a,iV i,.bool false,.bool false,.bool false,.bool false,.bool c,.bool d,.bool e,.bool f] 340]:=by
 refine hiS func438 ntmps438 fun g w0 R h0=>g0<|cl1 call232 (ut3_8_valid b a i c d e f om) h0 fun _ h11=>go [rd 3 3 0 0 1 h11]<|cl1 call394 (ut3_9_shakes b a i c d e f) h11 fun _ h13=>g0<|cl1 call466 (rdy2_ht b a i c d e f om om) h13 fun _ h15=>go [rd 7 3 0 0 1 h15,rd 9 4 0 0 1 h15,.s 9 6]<|lwP (iV 3) (law_rem (t:=3) (x:=Ot 39) (y:=(Operand.const (iV 6))) kr 3 6 kr kr om 3 dc _)<|cl1 call457 (ut3_52_to b a i c d e f) h15 fun _ h17=>g0 ?_
 exact enR _ [] h17
theorem ut3_54_roots(j q b a:Nat)(i:Int)(c d e f:Bool)(k l m:Nat)(o:Option Addr)(p:Nat)(hf0:0≤(a:Int)-1)(hf1:0≤ -(a:Int)+4):HQ 462 [pV j,pV q] [Cl b [iV 2,iV a,iV i,.bool c,.bool d,.bool e,.bool f,.bool c,.bool d,.bool e,.bool f] 340,Cl j [iV k,iV a,pV b,pV l,pV m,.slice o a p] 250] (.tuple #[]) [Cl b [iV 3,iV a,iV i,.bool false,.bool false,.bool false,.bool false,.bool c,.bool d,.bool e,.bool f] 340,Cl j [iV k,iV a,pV b,pV l,pV m,.slice o a p] 250]:=by
 refine hiS func462 ntmps462 fun g w0 R h0=>go [rd 0 3 1 2 1 h0]<|cl1 call466 (rdy2_ht b a i c d e f om om) h0 fun _ h11=>go [rd 1 3 1 2 1 h11]<|cl1 call438 (ut3_53_Go b a i c d e f om om) h11 fun _ h13=>g0 ?_
 exact enR _ [] h13
theorem mst2(b n m:Nat)(cy:Int)(ar:Nat)(A:List Sl2)(s:Nat)(gn:Int):HQ 405 [pV b,pV ar] [Mr b n m 2 cy (m:Int),Ar1 ar n m A s gn] (iV 0) [Mr b n m 3 cy 0,Ar1 ar n m A s gn]:=by
 refine hiS func405 ntmps405 fun g w0 R h0=> ?_
 obtain⟨ck10,pt11,sk12,p13,c14,qs15,zz16,yy17,hp18,hp19,hp20,hp21,hp22,hp23,hp24,h25⟩:=Mr_open h0
 have h26:sat g _ (Cl b [iV n,iV m,pV ck10,pV pt11,pV sk12,.slice p13 m c14] 250::_):=h25
 have h28:=tk8 (sf7 (sf7 (sf5 (sf6 (sf6 (sf6 (sf6 (sf7 h26.a.t8))))))))
 refine g0<|cl2 call331 (ut3_45_check b ar ck10 m n pt11 sk12 p13 c14 A s gn om) h28 fun _ h30=>g0<|dw (fls [1,2,3,4,7,8] (Tr.an 0 (Tr.an 5 (Tr.fl 6 (Tr.an 9 Tr.nil))))) h30 fun _ h32=>go [rd 4 4 0 2 1 h32]<|cw0 call433 ut3_46_steps h32 fun _ h34=>⟨kd [rd 0 4 0 2 1 h34],?_⟩
 refine cw1 call153 (ut3_17_Phase ck10 m 2 cy (decide (0<(m:Int))) (decide (1<(m:Int))) (decide (2<(m:Int))) (decide (3<(m:Int))) (decide (0<(m:Int))) (decide (1<(m:Int))) (decide (2<(m:Int))) (decide (3<(m:Int))) om) h34.b.t8 fun _ h37=>⟨kd [],?_⟩
 refine g0<|cw2 call462 (ut3_54_roots b ar ck10 m cy (decide (0<(m:Int))) (decide (1<(m:Int))) (decide (2<(m:Int))) (decide (3<(m:Int))) n pt11 sk12 p13 c14 om om) h37 fun w38 h39=>⟨kd [],?_⟩
 refine g0 ?_
 have h42:sat g w38 [Cl b [iV n,iV m,pV ck10,pV pt11,pV sk12,.slice p13 m c14] 250,Cl ck10 [iV 3,iV m,iV cy,.bool (decide (0<0)),.bool (decide (1<0)),.bool (decide (2<0)),.bool (decide (3<0)),.bool (decide (0<(m:Int))),.bool (decide (1<(m:Int))),.bool (decide (2<(m:Int))),.bool (decide (3<(m:Int)))] 340,Cl pt11 ([iV n]++List.replicate 256 (yV 0)) 336,Cl sk12 ([.bool false,iV 0,iV zz16]++List.replicate 65 (iV 0)) 344,Sl 257 1 p13 m c14 (fl ePB qs15),Bs (List.replicate 64 (iV 0)++ [iV yy17,iV 0,iV 0,.bool true]) 346 qs15,Ar1 ar n m A s gn,R]:=h39.f.f.f.f.d.e.t8
 have h41:sat g _ (Mr b n m 3 cy 0::_):=Mr_close b n m 3 cy 0 ck10 pt11 sk12 p13 c14 qs15 zz16 yy17 hp18 hp19 hp20 hp21 hp22 hp23 hp24 h42
 exact enR _ [] h41
theorem ut3_55_roots(c p b a:Nat)(d:Int)(e f i:Bool)(j k l:Nat)(m:Option Addr)(o:Nat)(hf0:0≤(a:Int)-1)(hf1:0≤ -(a:Int)+4):HQ 462 [pV c,pV p] [Cl b [iV 2,iV a,iV d,.bool false,.bool false,.bool false,.bool false,.bool true,.bool e,.bool f,.bool i] 340,Cl c [iV j,iV a,pV b,pV k,pV l,.slice m a o] 250] (.tuple #[]) [Cl b [iV 2,iV a,iV d,.bool false,.bool false,.bool false,.bool false,.bool true,.bool e,.bool f,.bool i] 340,Cl c [iV j,iV a,pV b,pV k,pV l,.slice m a o] 250]:=by
 refine hiS func462 ntmps462 fun g w0 R h0=>go [rd 0 3 1 2 1 h0]<|cl1 call466 (rdn2_ht b a d e f i om om) h0 fun _ h11=>g0 ?_
 exact enR _ [] h11
theorem mst2n(b n m:Nat)(cy:Int)(ar:Nat)(A:List Sl2)(s:Nat)(gn:Int):HQ 405 [pV b,pV ar] [Mr b n m 2 cy 0,Ar1 ar n m A s gn] (iV 0) [Mr b n m 2 cy 0,Ar1 ar n m A s gn]:=by
 refine hiS func405 ntmps405 fun g w0 R h0=> ?_
 obtain⟨ck10,pt11,sk12,p13,c14,qs15,zz16,yy17,hp18,hp19,hp20,hp21,hp22,hp23,hp24,h25⟩:=Mr_open h0
 have h26:sat g _ (Cl b [iV n,iV m,pV ck10,pV pt11,pV sk12,.slice p13 m c14] 250::_):=h25
 have h27:=h26.a.t8
 have e28:decide (0<(m:Int))=true:=decide_eq_true om
 have h29:sat g w0 [Cl ck10 [iV 2,iV m,iV cy,.bool false,.bool false,.bool false,.bool false,.bool true,.bool (decide (1<(m:Int))),.bool (decide (2<(m:Int))),.bool (decide (3<(m:Int)))] 340,Cl b [iV n,iV m,pV ck10,pV pt11,pV sk12,.slice p13 m c14] 250,Cl pt11 ([iV n]++List.replicate 256 (yV 0)) 336,Cl sk12 ([.bool false,iV 0,iV zz16]++List.replicate 65 (iV 0)) 344,Sl 257 1 p13 m c14 (fl ePB qs15),Bs (List.replicate 64 (iV 0)++ [iV yy17,iV 0,iV 0,.bool true]) 346 qs15,Ar1 ar n m A s gn,R]:=by rw[e28] at h27;exact h27
 have h30:=h29.f.b.t8
 refine g0<|cl2 call331 (ut3_45_check b ar ck10 m n pt11 sk12 p13 c14 A s gn om) h30 fun _ h32=>g0<|dw (fls [1,2,3,4,7,8] (Tr.an 0 (Tr.an 5 (Tr.fl 6 (Tr.an 9 Tr.nil))))) h32 fun _ h34=>go [rd 4 4 0 2 1 h34]<|cw0 call433 ut3_46_steps h34 fun _ h36=>⟨kd [rd 0 4 0 2 1 h36],?_⟩
 refine cw1 call153 (ut3_17_Phase ck10 m 2 cy false false false false true (decide (1<(m:Int))) (decide (2<(m:Int))) (decide (3<(m:Int))) om) h36.b.t8 fun _ h39=>⟨kd [],?_⟩
 refine g0<|cw2 call462 (ut3_55_roots b ar ck10 m cy (decide (1<(m:Int))) (decide (2<(m:Int))) (decide (3<(m:Int))) n pt11 sk12 p13 c14 om om) h39 fun w40 h41=>⟨kd [],?_⟩
 refine g0 ?_
 have e42:true=decide (0<(m:Int)):=(decide_eq_true om).symm
 have h43:sat g w40 [Cl ck10 [iV 2,iV m,iV cy,.bool (decide (0<0)),.bool (decide (1<0)),.bool (decide (2<0)),.bool (decide (3<0)),.bool (decide (0<(m:Int))),.bool (decide (1<(m:Int))),.bool (decide (2<(m:Int))),.bool (decide (3<(m:Int)))] 340,Cl b [iV n,iV m,pV ck10,pV pt11,pV sk12,.slice p13 m c14] 250,Ar1 ar n m A s gn,Cl pt11 ([iV n]++List.replicate 256 (yV 0)) 336,Cl sk12 ([.bool false,iV 0,iV zz16]++List.replicate 65 (iV 0)) 344,Sl 257 1 p13 m c14 (fl ePB qs15),Bs (List.replicate 64 (iV 0)++ [iV yy17,iV 0,iV 0,.bool true]) 346 qs15,R]:=by have h_:=sat_imp (B:=Cl ck10 [iV 2,iV m,iV cy,.bool (decide (0<0)),.bool (decide (1<0)),.bool (decide (2<0)),.bool (decide (3<0)),.bool (decide (0<(m:Int))),.bool (decide (1<(m:Int))),.bool (decide (2<(m:Int))),.bool (decide (3<(m:Int)))] 340) h41 (fun _ q_=>by rw[←e42];exact q_);exact h_
 have h45:sat g _ (Mr b n m 2 cy 0::_):=Mr_close b n m 2 cy 0 ck10 pt11 sk12 p13 c14 qs15 zz16 yy17 hp18 hp19 hp20 hp21 hp22 hp23 hp24 h43.f.f.f.f.d.e.t8
 exact enR _ [] h45
theorem ut4_1_Pop(a:Nat)(b:Int)(hf0:0≤b-1):HQ 485 [pV a] [Cl a ([.bool false,iV 0,iV b]++List.replicate 65 (iV 0)) 344] (.tuple #[iV 0,.bool false]) [Cl a ([.bool false,iV 0,iV b]++List.replicate 65 (iV 0)) 344]:=by
 refine hiS func485 ntmps485 fun g w0 R h0=>g0<|cl1 call247 (ut3_43_valid a b om) h0 fun _ h11=>go [rd 1 7 0 3 1 h11] ?_
 exact enR _ [] h11
theorem ut4_2_grey(b:Nat):HT prog 499 [pV b,iV 0] [] (fun v K=> ∃r10:Nat,∃r13:Nat,v= .func (Fn.func 505) #[] #[pV r10,pV r13]∧K= [Cl r10 [pV b] 246,Cl r13 [iV 0] 3]):=by
 refine hiS func499 ntmps499 fun g w0 R h0=>g0<|nP 246 [pV b] h0 (fun r10 _ h12=> ?_)
 refine nP 3 [iV 0] h12 (fun r13 _ h15=> ?_)
 refine g0 ?_
 exact en (.func (Fn.func 505) #[] #[pV r10,pV r13]) [] ⟨_,_,rfl,⟨r10,r13,rfl,rfl⟩,h15.a.t3⟩
theorem ut4_3_Grey(a f:Nat)(hf0:0≤(f:Int)-1)(hf1:0≤ -(f:Int)+256):HQ 486 [pV a,iV 0] [Cl a ([iV f]++List.replicate 256 (yV 0)) 336] (.tuple #[iV 0,.bool false]) [Cl a ([iV f]++List.replicate 256 (yV 0)) 336]:=by
 refine hiS func486 ntmps486 fun g w0 R h0=>g0<|nP 3 [iV 0] h0 (fun r10 _ h12=> ?_)
 refine nP 4 [.bool false] h12 (fun r13 _ h15=> ?_)
 refine g0<|cP call499 (ut4_2_grey a) h15 ?_
 rintro v K _ (⟨r16,r17,rfl,rfl⟩) h19
 have h21:=(ap2 h19).d.b.b.t6
 refine g0 ?_
 refine rfS (N:=0) (fun i K=>K= []) (fun c _ K=>False) call505 (grey_it r16 r17 a f om om) rfl h21 ?_ ?_ ?_
 · intro i_ hi_;exact absurd hi_ (Nat.not_lt_zero _)
 ·
  rintro D22 w23 K_ ⟨rfl⟩ h24
  have h25:sat g _ (pt D22 (Obj.deferred (some []))::_):=h24
  have h26:=h25.e.t7
  refine g0<|sA [iV 0] h26 fun _ h28=>sA [.bool false] h28.e.t7 fun _ h31=>g0 ?_
  refine enD (.tuple #[iV 0,.bool false]) h31.b.t7 (fun w34 h33=> [rd 0 0 2 0 1 h33,rd 0 0 1 0 1 h33]) (fun w34 h33=> ?_) [iV 0,.bool false] [(⟨r10,0,none⟩,iV 0),(⟨r13,0,none⟩,.bool false)]
  exact⟨_,_,rfl,⟨rfl,rfl⟩,(tk2 (sf1 (sf6 h33.e.t7)))⟩
 intro _ _ _ _ _ _ hf_;exact hf_.elim
theorem ut4_4_shakes(a b:Nat)(c:Int)(d e f i j k l m:Bool):HQ 394 [pV a] [Cl a [iV 3,iV b,iV c,.bool d,.bool e,.bool f,.bool i,.bool j,.bool k,.bool l,.bool m] 340] (.bool false) [Cl a [iV 3,iV b,iV c,.bool d,.bool e,.bool f,.bool i,.bool j,.bool k,.bool l,.bool m] 340]:=by
 refine hiS func394 ntmps394 fun g w0 R h0=>go [rd 1 3 0 0 1 h0,rd 1 9 0 0 1 h0] ?_
 exact enR _ [] h0
theorem ut4_5_to(i a:Nat)(b:Int)(j k l m c d e f:Bool):HQ 457 [pV i,iV 4] [Cl i [iV 3,iV a,iV b,.bool j,.bool k,.bool l,.bool m,.bool c,.bool d,.bool e,.bool f] 340] (.tuple #[]) [Cl i [iV 4,iV a,iV b,.bool false,.bool false,.bool false,.bool false,.bool c,.bool d,.bool e,.bool f] 340]:=by
 refine hiS func457 ntmps457 fun g w0 R h0=>g0<|sP [(0,iV 4)] [iV 4,iV a,iV b,.bool j,.bool k,.bool l,.bool m,.bool c,.bool d,.bool e,.bool f] h0 fun _ h11=>g0<|sP [(3,.bool false),(4,.bool false),(5,.bool false),(6,.bool false)] [iV 4,iV a,iV b,.bool false,.bool false,.bool false,.bool false,.bool c,.bool d,.bool e,.bool f] h11 fun _ h13=>g0 ?_
 exact enR _ [] h13
theorem ut4_6_Go(a b:Nat)(c:Int)(j k l m d e f i:Bool)(hf0:0≤(b:Int)-1):HQ 438 [pV a] [Cl a [iV 3,iV b,iV c,.bool j,.bool k,.bool l,.bool m,.bool d,.bool e,.bool f,.bool i] 340] (iV 0) [Cl a [iV 4,iV b,iV c,.bool false,.bool false,.bool false,.bool false,.bool d,.bool e,.bool f,.bool i] 340]:=by
 refine hiS func438 ntmps438 fun g w0 R h0=>g0<|cl1 call232 (ut3_16_valid a b 3 c j k l m d e f i om) h0 fun _ h11=>go [rd 3 3 0 0 1 h11]<|cl1 call394 (ut4_4_shakes a b c j k l m d e f i) h11 fun _ h13=>go [rd 7 3 0 0 1 h13,rd 9 4 0 0 1 h13,.s 9 6]<|lwP (iV 4) (law_rem (t:=3) (x:=Ot 39) (y:=(Operand.const (iV 6))) kr 4 6 kr kr om 4 dc _)<|cl1 call457 (ut4_5_to a b c j k l m d e f i) h13 fun _ h15=>g0 ?_
 exact enR _ [] h15
theorem mtrace(b n m:Nat)(cy sn:Int)(ck pt sk:Nat)(p:Option Addr)(c:Nat)(qs:List Nat)(zz yy:Int)(ar:Nat)(hf0:0≤(m:Int)-1)(hf1:0≤ -(m:Int)+4)(hf2:0≤(n:Int)-1)(hf3:0≤ -(n:Int)+256)(hf4:0≤zz-1)(hf5:0≤ -zz+64)(hf6:0≤yy-1)(hf7:0≤ -yy+64):HQ 463 [pV b,pV ar] [Cl b [iV n,iV m,pV ck,pV pt,pV sk,.slice p m c] 250,Cl ck [iV 3,iV m,iV cy,.bool (decide (0<sn)),.bool (decide (1<sn)),.bool (decide (2<sn)),.bool (decide (3<sn)),.bool (decide (0<(m:Int))),.bool (decide (1<(m:Int))),.bool (decide (2<(m:Int))),.bool (decide (3<(m:Int)))] 340,Cl pt ([iV n]++List.replicate 256 (yV 0)) 336,Cl sk ([.bool false,iV 0,iV zz]++List.replicate 65 (iV 0)) 344,Sl 257 1 p m c (fl ePB qs),Bs (List.replicate 64 (iV 0)++ [iV yy,iV 0,iV 0,.bool true]) 346 qs] (.tuple #[]) [Cl b [iV n,iV m,pV ck,pV pt,pV sk,.slice p m c] 250,Cl ck [iV 4,iV m,iV cy,.bool false,.bool false,.bool false,.bool false,.bool (decide (0<(m:Int))),.bool (decide (1<(m:Int))),.bool (decide (2<(m:Int))),.bool (decide (3<(m:Int)))] 340,Cl pt ([iV n]++List.replicate 256 (yV 0)) 336,Cl sk ([.bool false,iV 0,iV zz]++List.replicate 65 (iV 0)) 344,Sl 257 1 p m c (fl ePB qs),Bs (List.replicate 64 (iV 0)++ [iV yy,iV 0,iV 0,.bool true]) 346 qs]:=by
 refine hiS func463 ntmps463 fun g w0 R h0=>go [rd 0 3 0 5 1 h0] ?_
 refine lpS (fun mz_ a w=> ∃i:Nat,∃lr:Fr,mz_=m-i∧(i≤m)∧a=mk 86 (([(0,pV b),(1,pV ar),(17,.slice p m c),(18,iV m),(19,iV i)]:Fr)++lr)∧sat g w [Cl b [iV n,iV m,pV ck,pV pt,pV sk,.slice p m c] 250,Cl ck [iV 3,iV m,iV cy,.bool (decide (0<sn)),.bool (decide (1<sn)),.bool (decide (2<sn)),.bool (decide (3<sn)),.bool (decide (0<(m:Int))),.bool (decide (1<(m:Int))),.bool (decide (2<(m:Int))),.bool (decide (3<(m:Int)))] 340,Cl pt ([iV n]++List.replicate 256 (yV 0)) 336,Cl sk ([.bool false,iV 0,iV zz]++List.replicate 65 (iV 0)) 344,Sl 257 1 p m c (fl ePB qs),Bs (List.replicate 64 (iV 0)++ [iV yy,iV 0,iV 0,.bool true]) 346 qs,R]) (m-0) ⟨0,_,rfl,(Nat.zero_le _),(lvF [.k 0 (pV b),.k 1 (pV ar),.k 17 (.slice p m c),.k 18 (iV m),.o 19 (oJ .i64 0 (0:Int))]),h0⟩ ?_
 rintro m11 a12 w13 ⟨i,lr10,rfl,hi_,rfl,h14⟩
 refine ga<|go [.s 1 0] ?_
 by_cases c15:(i:Int)<(m:Int)
 ·
  obtain⟨b16,hp17⟩:=sl_ptr0 (j:=4) h14 rfl om
  refine go [.v 1 0 (oT _ c15),.s 2 0]<|lwP (.pointer (some ⟨b16,i,none⟩)) (liP (Ot 17) (Ot 19) p b16 0 (i:Int) m c underlying248 1 i hp17 i) ?_
  have h18:=h14.d.t7
  have hl19:=fl_n ePB_ok dc h18
  obtain⟨x20,hx21⟩: ∃x,qs[i]? =some x:=⟨_,List.getElem?_eq_getElem (by rw[hl19];omega)⟩
  have h22:=h18.e.t7
  refine go [.r 2 1 b16 i [pV x20] ⟨gvc 0 h18 rfl hp17 ePB_ok 0 (pV x20) hx21 i,trivial⟩]<|cl1 call441 (drainB x20 yy i qs hx21 om om) h22 fun _ h24=>g0<|unS 1<|g0<|up<|go [.v 9 0 (oIr ((i:Int)+1))] ?_
  refine enL ?_
  have h25:=h24.a.e.e.e.e.t7
  change ∃n',n'<_∧_
  refine⟨(m-(i+1)),by omega,(i+1),_,rfl,om,(lvF [.k 0 (pV b),.k 1 (pV ar),.k 17 (.slice p m c),.k 18 (iV m),.o 19 (oJ .i64 ((i:Int)+1) (((i+1):Nat):Int))]),h25⟩
 refine go [.v 1 0 (oF _ c15)]<|up ?_
 have h26:=h14.c.t7
 refine go [rd 10 3 0 4 1 h14]<|cl1 call485 (ut4_1_Pop sk zz om) h26 fun _ h28=> ?_
 have h29:=h28.c.t7
 refine go [rd 12 3 1 3 1 h28]<|cl1 call486 (ut4_3_Grey pt n om om) h29 fun _ h31=> ?_
 have h32:=h31.c.t7
 refine go [rd 14 3 2 2 1 h31]<|cl1 call438 (ut4_6_Go ck m cy (decide (0<sn)) (decide (1<sn)) (decide (2<sn)) (decide (3<sn)) (decide (0<(m:Int))) (decide (1<(m:Int))) (decide (2<(m:Int))) (decide (3<(m:Int))) om) h32 fun _ h34=>g0 ?_
 exact enR _ [] h34.c.t7
theorem mst3(b n m:Nat)(cy:Int)(ar:Nat)(A:List Sl2)(s:Nat)(gn sn:Int):HQ 405 [pV b,pV ar] [Mr b n m 3 cy sn,Ar1 ar n m A s gn] (iV 0) [Mr b n m 4 cy 0,Ar1 ar n m A s gn]:=by
 refine hiS func405 ntmps405 fun g w0 R h0=> ?_
 obtain⟨ck10,pt11,sk12,p13,c14,qs15,zz16,yy17,hp18,hp19,hp20,hp21,hp22,hp23,hp24,h25⟩:=Mr_open h0
 have h26:sat g _ (Cl b [iV n,iV m,pV ck10,pV pt11,pV sk12,.slice p13 m c14] 250::_):=h25
 have h27:=h26.f.a.t8
 refine g0<|cl2 call331 (ut3_45_check b ar ck10 m n pt11 sk12 p13 c14 A s gn om) h27 fun _ h29=>g0<|dw (fls [1,2,3,4,7,8] (Tr.an 0 (Tr.an 5 (Tr.fl 6 (Tr.an 9 Tr.nil))))) h29 fun _ h31=>go [rd 4 4 0 2 1 h31]<|cw0 call433 ut3_46_steps h31 fun _ h33=>⟨kd [rd 0 4 0 2 1 h33],?_⟩
 refine cw1 call153 (ut3_17_Phase ck10 m 3 cy (decide (0<sn)) (decide (1<sn)) (decide (2<sn)) (decide (3<sn)) (decide (0<(m:Int))) (decide (1<(m:Int))) (decide (2<(m:Int))) (decide (3<(m:Int))) om) h33.b.t8 fun _ h36=>⟨kd [],?_⟩
 have h37:=h36.f.f.f.f.d.e.t8
 refine g0<|cw6 call463 (mtrace b n m cy sn ck10 pt11 sk12 p13 c14 qs15 zz16 yy17 ar om om om om om om om om) h37 fun w38 h39=>⟨kd [],?_⟩
 refine g0 ?_
 have h41:sat g _ (Cl b [iV n,iV m,pV ck10,pV pt11,pV sk12,.slice p13 m c14] 250::_):=h39
 have h40:sat g _ (Mr b n m 4 cy 0::_):=Mr_close b n m 4 cy 0 ck10 pt11 sk12 p13 c14 qs15 zz16 yy17 hp18 hp19 hp20 hp21 hp22 hp23 hp24 h41
 exact enR _ [] h40
theorem ut4_7_check(d e b c f i j:Nat)(k:Option Addr)(l:Nat)(m:List Sl2)(hf0:0≤(b:Int)-1):HQ 331 [pV d,pV e] [Cl d [iV b,iV c,pV f,pV i,pV j,.slice k c l] 250,Ar0 e b c m] (iV 0) [Cl d [iV b,iV c,pV f,pV i,pV j,.slice k c l] 250,Ar0 e b c m]:=by
 refine hiS func331 ntmps331 fun g w0 R h0=>g0<|cl1 call152 (ut3_15_valid d b c f i j k l om) h0 fun _ h11=> ?_
 have h12:=h11.a.t3
 refine g0<|cl1 call289 (asizes0 e b c m) h12 fun _ h14=>go [.v 4 1 (qeF (b:Int) 0),rd 6 4 1 0 1 h14,.v 6 5 (qnF (b:Int) (b:Int)),rd 6 11 1 1 1 h14,.v 6 12 (qnF (c:Int) (c:Int))] ?_
 exact enR _ [] h14.a.t3
theorem ut4_8_find(b c a:Nat)(d e:Int)(f i j k l m o p:Bool)(hf0:0≤(a:Int)-(c:Int)-1):HQ 326 [pV b,iV c] [Cl b [iV d,iV a,iV e,.bool f,.bool i,.bool j,.bool k,.bool l,.bool m,.bool o,.bool p] 340] (iV 0) [Cl b [iV d,iV a,iV e,.bool f,.bool i,.bool j,.bool k,.bool l,.bool m,.bool o,.bool p] 340]:=by
 refine hiS func326 ntmps326 fun g w0 R h0=>g0<|cl1 call232 (ut3_16_valid b a d e f i j k l m o p om) h0 fun _ h11=>go [.v 3 1 (oF ((c:Int)<0)),rd 3 7 0 1 1 h11,.v 3 8 (oF ((c:Int)≥(a:Int)))] ?_
 exact enR _ [] h11
theorem ut4_9_shakes(b:Nat)(a:Int)(c:Nat)(d:Int)(e f i j k l m o:Bool)(hf0:0≤a-3):HQ 394 [pV b] [Cl b [iV a,iV c,iV d,.bool e,.bool f,.bool i,.bool j,.bool k,.bool l,.bool m,.bool o] 340] (.bool false) [Cl b [iV a,iV c,iV d,.bool e,.bool f,.bool i,.bool j,.bool k,.bool l,.bool m,.bool o] 340]:=by
 refine hiS func394 ntmps394 fun g w0 R h0=>go [rd 1 3 0 0 1 h0,.v 1 4 (qeF a 1),rd 1 9 0 0 1 h0,.v 1 10 (qeF a 2)] ?_
 exact enR _ [] h0
theorem ut4_10_Ack(a p b:Nat)(c d:Int)(e f i j k l m o:Bool)(hf0:0≤(b:Int)-(p:Int)-1)(hf1:0≤c-3):HQ 332 [pV a,iV p] [Cl a [iV c,iV b,iV d,.bool e,.bool f,.bool i,.bool j,.bool k,.bool l,.bool m,.bool o] 340] (.tuple #[.bool false,iV 8]) [Cl a [iV c,iV b,iV d,.bool e,.bool f,.bool i,.bool j,.bool k,.bool l,.bool m,.bool o] 340]:=by
 refine hiS func332 ntmps332 fun g w0 R h0=>g0<|cl1 call326 (ut4_8_find a p b c d e f i j k l m o om) h0 fun _ h11=>g0<|cl1 call394 (ut4_9_shakes a c b d e f i j k l m o om) h11 fun _ h13=>g0 ?_
 exact enR _ [] h13
theorem mackx0(b n m:Nat)(cy ph sn:Int)(ar:Nat)(A:List Sl2)(j:Nat)(hf0:0≤ph-3)(hf1:0≤(m:Int)-(j:Int)-1):HQ 261 [pV b,pV ar,iV j] [Mr b n m ph cy sn,Ar0 ar n m A] (.tuple #[.bool false,iV 8]) [Mr b n m ph cy sn,Ar0 ar n m A]:=by
 refine hiS func261 ntmps261 fun g w0 R h0=> ?_
 obtain⟨ck10,pt11,sk12,p13,c14,qs15,zz16,yy17,hp18,hp19,hp20,hp21,hp22,hp23,hp24,h25⟩:=Mr_open h0
 have h26:sat g _ (Cl b [iV n,iV m,pV ck10,pV pt11,pV sk12,.slice p13 m c14] 250::_):=h25
 have h27:=h26.f.a.t8
 refine g0<|cl2 call331 (ut4_7_check b ar n m ck10 pt11 sk12 p13 c14 A om) h27 fun _ h29=> ?_
 have h30:=h29.b.t8
 refine go [rd 4 3 0 2 1 h29]<|cl1 call332 (ut4_10_Ack ck10 j m ph cy (decide (0<sn)) (decide (1<sn)) (decide (2<sn)) (decide (3<sn)) (decide (0<(m:Int))) (decide (1<(m:Int))) (decide (2<(m:Int))) (decide (3<(m:Int))) om om) h30 fun w31 h32=>g0 ?_
 have h34:sat g _ (Mr b n m ph cy sn::_):=Mr_close b n m ph cy sn ck10 pt11 sk12 p13 c14 qs15 zz16 yy17 hp18 hp19 hp20 hp21 hp22 hp23 hp24 h32.f.f.f.f.d.e.t8
 exact enR _ [] h34
theorem ut4_11_shakes(a b:Nat)(c:Int)(d e f i j k l m:Bool):HQ 394 [pV a] [Cl a [iV 0,iV b,iV c,.bool d,.bool e,.bool f,.bool i,.bool j,.bool k,.bool l,.bool m] 340] (.bool false) [Cl a [iV 0,iV b,iV c,.bool d,.bool e,.bool f,.bool i,.bool j,.bool k,.bool l,.bool m] 340]:=by
 refine hiS func394 ntmps394 fun g w0 R h0=>go [rd 1 3 0 0 1 h0,rd 1 9 0 0 1 h0] ?_
 exact enR _ [] h0
theorem ut4_12_Ack(a o b:Nat)(c:Int)(d e f i j k l m:Bool)(hf0:0≤(b:Int)-(o:Int)-1):HQ 332 [pV a,iV o] [Cl a [iV 0,iV b,iV c,.bool d,.bool e,.bool f,.bool i,.bool j,.bool k,.bool l,.bool m] 340] (.tuple #[.bool false,iV 8]) [Cl a [iV 0,iV b,iV c,.bool d,.bool e,.bool f,.bool i,.bool j,.bool k,.bool l,.bool m] 340]:=by
 refine hiS func332 ntmps332 fun g w0 R h0=>g0<|cl1 call326 (ut4_8_find a o b 0 c d e f i j k l m om) h0 fun _ h11=>g0<|cl1 call394 (ut4_11_shakes a b c d e f i j k l m) h11 fun _ h13=>g0 ?_
 exact enR _ [] h13
theorem macki0(b n m:Nat)(cy sn:Int)(ar:Nat)(A:List Sl2)(j:Nat)(hf0:0≤(m:Int)-(j:Int)-1):HQ 261 [pV b,pV ar,iV j] [Mr b n m 0 cy sn,Ar0 ar n m A] (.tuple #[.bool false,iV 8]) [Mr b n m 0 cy sn,Ar0 ar n m A]:=by
 refine hiS func261 ntmps261 fun g w0 R h0=> ?_
 obtain⟨ck10,pt11,sk12,p13,c14,qs15,zz16,yy17,hp18,hp19,hp20,hp21,hp22,hp23,hp24,h25⟩:=Mr_open h0
 have h26:sat g _ (Cl b [iV n,iV m,pV ck10,pV pt11,pV sk12,.slice p13 m c14] 250::_):=h25
 have h27:=h26.f.a.t8
 refine g0<|cl2 call331 (ut4_7_check b ar n m ck10 pt11 sk12 p13 c14 A om) h27 fun _ h29=> ?_
 have h30:=h29.b.t8
 refine go [rd 4 3 0 2 1 h29]<|cl1 call332 (ut4_12_Ack ck10 j m cy (decide (0<sn)) (decide (1<sn)) (decide (2<sn)) (decide (3<sn)) (decide (0<(m:Int))) (decide (1<(m:Int))) (decide (2<(m:Int))) (decide (3<(m:Int))) om) h30 fun w31 h32=>g0 ?_
 have h34:sat g _ (Mr b n m 0 cy sn::_):=Mr_close b n m 0 cy sn ck10 pt11 sk12 p13 c14 qs15 zz16 yy17 hp18 hp19 hp20 hp21 hp22 hp23 hp24 h32.f.f.f.f.d.e.t8
 exact enR _ [] h34
theorem mackx1(b n m:Nat)(cy ph sn:Int)(ar:Nat)(A:List Sl2)(s:Nat)(gn:Int)(j:Nat)(hf0:0≤ph-3)(hf1:0≤(m:Int)-(j:Int)-1):HQ 261 [pV b,pV ar,iV j] [Mr b n m ph cy sn,Ar1 ar n m A s gn] (.tuple #[.bool false,iV 8]) [Mr b n m ph cy sn,Ar1 ar n m A s gn]:=by
 refine hiS func261 ntmps261 fun g w0 R h0=> ?_
 obtain⟨ck10,pt11,sk12,p13,c14,qs15,zz16,yy17,hp18,hp19,hp20,hp21,hp22,hp23,hp24,h25⟩:=Mr_open h0
 have h26:sat g _ (Cl b [iV n,iV m,pV ck10,pV pt11,pV sk12,.slice p13 m c14] 250::_):=h25
 have h27:=h26.f.a.t8
 refine g0<|cl2 call331 (ut3_45_check b ar ck10 m n pt11 sk12 p13 c14 A s gn om) h27 fun _ h29=> ?_
 have h30:=h29.b.t8
 refine go [rd 4 3 0 2 1 h29]<|cl1 call332 (ut4_10_Ack ck10 j m ph cy (decide (0<sn)) (decide (1<sn)) (decide (2<sn)) (decide (3<sn)) (decide (0<(m:Int))) (decide (1<(m:Int))) (decide (2<(m:Int))) (decide (3<(m:Int))) om om) h30 fun w31 h32=>g0 ?_
 have h34:sat g _ (Mr b n m ph cy sn::_):=Mr_close b n m ph cy sn ck10 pt11 sk12 p13 c14 qs15 zz16 yy17 hp18 hp19 hp20 hp21 hp22 hp23 hp24 h32.f.f.f.f.d.e.t8
 exact enR _ [] h34
theorem mack1(b n m:Nat)(cy:Int)(ar:Nat)(A:List Sl2)(s:Nat)(gn:Int)(j:Nat)(hf0:0≤(m:Int)-(j:Int)-1):HQ 261 [pV b,pV ar,iV j] [Mr b n m 1 cy (j:Int),Ar1 ar n m A s gn] (.tuple #[.bool true,iV 0]) [Mr b n m 1 cy ((j:Int)+1),Ar1 ar n m A s gn]:=by
 refine hiS func261 ntmps261 fun g w0 R h0=> ?_
 obtain⟨ck10,pt11,sk12,p13,c14,qs15,zz16,yy17,hp18,hp19,hp20,hp21,hp22,hp23,hp24,h25⟩:=Mr_open h0
 have h26:sat g _ (Cl b [iV n,iV m,pV ck10,pV pt11,pV sk12,.slice p13 m c14] 250::_):=h25
 have h27:=h26.f.a.t8
 refine g0<|cl2 call331 (ut3_45_check b ar ck10 m n pt11 sk12 p13 c14 A s gn om) h27 fun _ h29=> ?_
 have h30:=h29.b.t8
 refine go [rd 4 3 0 2 1 h29]<|cl1 call332 (cack1_ht ck10 m cy j (decide (0<(m:Int))) (decide (1<(m:Int))) (decide (2<(m:Int))) (decide (3<(m:Int))) om om om) h30 fun _ h32=>go [rd 7 5 1 2 1 h32]<|cl1 call153 (ut3_17_Phase ck10 m 1 cy (decide (0<(j:Int)+1)) (decide (1<(j:Int)+1)) (decide (2<(j:Int)+1)) (decide (3<(j:Int)+1)) (decide (0<(m:Int))) (decide (1<(m:Int))) (decide (2<(m:Int))) (decide (3<(m:Int))) om) h32 fun w33 h34=>g0 ?_
 have h36:sat g _ (Mr b n m 1 cy ((j:Int)+1)::_):=Mr_close b n m 1 cy ((j:Int)+1) ck10 pt11 sk12 p13 c14 qs15 zz16 yy17 hp18 hp19 hp20 hp21 hp22 hp23 hp24 h34.f.f.f.f.d.e.t8
 exact enR _ [] h36
theorem ut4_13_shader1(a:Option Addr)(b c d:Nat):HQ 395 [.slice a 0 b,pV c,pV d] [] (.tuple #[]) []:=by
 refine hiS func395 ntmps395 fun g w0 R h0=>g0<|unS 39<|g0<|up<|g0 ?_
 exact enR _ [] h0
theorem mack2(b n m:Nat)(cy:Int)(ar:Nat)(A:List Sl2)(s:Nat)(gn:Int)(j:Nat)(hf0:0≤(m:Int)-(j:Int)-1):HQ 261 [pV b,pV ar,iV j] [Mr b n m 2 cy (j:Int),Ar1 ar n m A s gn] (.tuple #[.bool true,iV 0]) [Mr b n m 2 cy ((j:Int)+1),Ar1 ar n m A s gn]:=by
 refine hiS func261 ntmps261 fun g w0 R h0=> ?_
 obtain⟨ck10,pt11,sk12,p13,c14,qs15,zz16,yy17,hp18,hp19,hp20,hp21,hp22,hp23,hp24,h25⟩:=Mr_open h0
 have h26:sat g _ (Cl b [iV n,iV m,pV ck10,pV pt11,pV sk12,.slice p13 m c14] 250::_):=h25
 have h27:=h26.f.a.t8
 refine g0<|cl2 call331 (ut3_45_check b ar ck10 m n pt11 sk12 p13 c14 A s gn om) h27 fun _ h29=> ?_
 have h30:=h29.b.t8
 refine go [rd 4 3 0 2 1 h29]<|cl1 call332 (cack2_ht ck10 m cy j (decide (0<(m:Int))) (decide (1<(m:Int))) (decide (2<(m:Int))) (decide (3<(m:Int))) om om om) h30 fun _ h32=>go [rd 7 5 1 2 1 h32]<|cl1 call153 (ut3_17_Phase ck10 m 2 cy (decide (0<(j:Int)+1)) (decide (1<(j:Int)+1)) (decide (2<(j:Int)+1)) (decide (3<(j:Int)+1)) (decide (0<(m:Int))) (decide (1<(m:Int))) (decide (2<(m:Int))) (decide (3<(m:Int))) om) h32 fun _ h34=> ?_
 have h37:=h34.b.t8
 refine g0<|cP call265 (ast1_ht ar n m A s gn j om) h37 ?_
 rintro v K _ (⟨p35,c36,rfl,rfl⟩) h39
 have h40:=ap1 h39
 refine g0<|cP call333 (ut3_49_shader b ar m n A s gn) h40 ?_
 rintro v K _ (⟨r41,r42,h43,t44,rfl,rfl⟩) h46
 have h47:=ap5 h46
 refine g0<|cl0 call395 (ut4_13_shader1 p35 c36 r41 r42) h47 fun w48 h49=>g0 ?_
 have h51:sat g _ (Mr b n m 2 cy ((j:Int)+1)::_):=Mr_close b n m 2 cy ((j:Int)+1) ck10 pt11 sk12 p13 c14 qs15 zz16 yy17 hp18 hp19 hp20 hp21 hp22 hp23 hp24 h49.j.j.j.j.i.j.t12
 exact enR _ [] h51.f.b.b.t3
theorem pnew0(m:Nat)(hf0:0≤(m:Int)-1)(hf1:0≤ -(m:Int)+4):HT prog 127 [iV m] [] (fun v K=> ∃b:Nat,v= .tuple #[pV b,iV 0]∧K= [Cl b [iV 0,iV m,iV 0,.bool (decide (0<0)),.bool (decide (1<0)),.bool (decide (2<0)),.bool (decide (3<0)),.bool (decide (0<(m:Int))),.bool (decide (1<(m:Int))),.bool (decide (2<(m:Int))),.bool (decide (3<(m:Int)))] 340]):=by
 refine hiS func127 ntmps127 fun g w0 R h0=>go [.v 1 1 (oF ((m:Int)<1)),.v 1 4 (oF ((m:Int)>4))]<|nP 340 [iV 0,iV m,iV 0,.bool false,.bool false,.bool false,.bool false,.bool false,.bool false,.bool false,.bool false] h0 (fun r10 w11 h12=> ?_)
 refine g0 ?_
 have h13:sat g w11 [Cl r10 [iV 0,iV m,iV 0,.bool false,.bool false,.bool false,.bool false,.bool (decide (0<0)),.bool (decide (1<0)),.bool (decide (2<0)),.bool (decide (3<0))] 340,R]:=h12
 refine lpS (fun mz_ a w=> ∃i:Nat,∃lr:Fr,mz_=m-i∧(i≤m)∧a=mk 26 (([(4,pV r10),(15,iV m),(16,iV i)]:Fr)++lr)∧sat g w [Cl r10 [iV 0,iV m,iV 0,.bool false,.bool false,.bool false,.bool false,.bool (decide (0<(i:Int))),.bool (decide (1<(i:Int))),.bool (decide (2<(i:Int))),.bool (decide (3<(i:Int)))] 340,R]) (m-0) ⟨0,_,rfl,(Nat.zero_le _),(lvF [.k 4 (pV r10),.k 15 (iV m),.o 16 (oJ .i64 0 (0:Int))]),h13⟩ ?_
 rintro m15 a16 w17 ⟨i,lr14,rfl,hi_,rfl,h18⟩
 refine ga<|go [.s 5 0] ?_
 by_cases c19:(i:Int)<(m:Int)
 ·
  refine go [.v 5 0 (oT _ c19),.s 7 4]<|lwP (.pointer (some ⟨r10,i+7,none⟩)) (law_indexArr (x:=Ot 22) (i:=Ot 20) (b:=r10) (off:=7) (z:=(i:Int)) kr underlying338 1 kr i kr kr om om (i+7) om _) ?_
  refine actG ?_
  refine an_store [(i+7,.bool true)] (cs':= [iV 0,iV m,iV 0,.bool false,.bool false,.bool false,.bool false,.bool (decide (0<(i:Int)+1)),.bool (decide (1<(i:Int)+1)),.bool (decide (2<(i:Int)+1)),.bool (decide (3<(i:Int)+1))]) kr kr (ck_okA (j:=i) om om) (ck_putA (j:=i) rfl om om) h18 ?_
  intro _ h21
  refine nxB<|go [.v 8 0 (oIr ((i:Int)+1))] ?_
  exact enN (m-(i+1)) ⟨(i+1),_,rfl,om,(lvF [.k 4 (pV r10),.k 15 (iV m),.o 16 (oJ .i64 ((i:Int)+1) (((i+1):Nat):Int))]),h21⟩
 refine go [.v 5 0 (oF _ c19)]<|up<|g0 ?_
 obtain rfl:i=m:=by omega
 exact en (.tuple #[pV r10,iV 0]) [] ⟨_,_,rfl,⟨r10,rfl,rfl⟩,h18⟩
theorem ut5_1_New(a:Nat)(hf0:0≤(a:Int)-1)(hf1:0≤ -(a:Int)+256):HT prog 126 [iV a] [] (fun v K=> ∃r10:Nat,v= .tuple #[pV r10,iV 0]∧K= [Cl r10 ([iV a]++List.replicate 256 (yV 0)) 336]):=by
 refine hiS func126 ntmps126 fun g w0 R h0=>go [.v 1 1 (oF ((a:Int)<1)),.v 1 4 (oF ((a:Int)>256))]<|nP 336 ([iV a]++List.replicate 256 (yV 0)) h0 (fun r10 _ h12=> ?_)
 refine g0 ?_
 exact en (.tuple #[pV r10,iV 0]) [] ⟨_,_,rfl,⟨r10,rfl,rfl⟩,h12⟩
theorem ut5_2_New(a:Int)(hf0:0≤a-1)(hf1:0≤ -a+64):HT prog 128 [iV a] [] (fun v K=> ∃r10:Nat,v= .tuple #[pV r10,iV 0]∧K= [Cl r10 ([.bool false,iV 0,iV a]++List.replicate 65 (iV 0)) 344]):=by
 refine hiS func128 ntmps128 fun g w0 R h0=>go [.v 1 1 (oF (a<1)),.v 1 4 (oF (a>64))]<|nP 344 ([.bool false,iV 0,iV a]++List.replicate 65 (iV 0)) h0 (fun r10 _ h12=> ?_)
 refine g0 ?_
 exact en (.tuple #[pV r10,iV 0]) [] ⟨_,_,rfl,⟨r10,rfl,rfl⟩,h12⟩
theorem ut5_3_New(a:Int)(hf0:0≤a-1)(hf1:0≤ -a+64):HT prog 129 [iV a] [] (fun v K=> ∃r10:Nat,v= .tuple #[pV r10,iV 0]∧K= [Cl r10 (List.replicate 64 (iV 0)++ [iV a,iV 0,iV 0,.bool true]) 346]):=by
 refine hiS func129 ntmps129 fun g w0 R h0=>go [.v 1 1 (oF (a<1)),.v 1 4 (oF (a>64))]<|nP 346 (List.replicate 64 (iV 0)++ [iV a,iV 0,iV 0,.bool true]) h0 (fun r10 _ h12=> ?_)
 refine g0 ?_
 exact en (.tuple #[pV r10,iV 0]) [] ⟨_,_,rfl,⟨r10,rfl,rfl⟩,h12⟩
theorem mnew(n m:Nat)(zz yy:Int)(hf0:0≤(m:Int)-1)(hf1:0≤ -(m:Int)+4)(hf2:0≤(n:Int)-1)(hf3:0≤ -(n:Int)+256)(hf4:0≤zz-1)(hf5:0≤ -zz+64)(hf6:0≤yy-1)(hf7:0≤ -yy+64):HT prog 62 [iV n,iV m,iV zz,iV yy] [] (fun v K=> ∃b:Nat,v= .tuple #[pV b,iV 0]∧K= [Mr b n m 0 0 0]):=by
 refine hiS func62 ntmps62 fun g w0 R h0=>g0<|nP 250 [iV n,iV m,.pointer none,.pointer none,.pointer none,.slice none 0 0] h0 (fun r10 _ h12=> ?_)
 refine g0<|cP call126 (ut5_1_New n om om) h12 ?_
 rintro v K _ (⟨r13,rfl,rfl⟩) h15
 have h17:=(ap1 h15).a.t3
 refine g0<|sP [(3,pV r13)] [iV n,iV m,.pointer none,pV r13,.pointer none,.slice none 0 0] h17 fun _ h19=>g0<|cP call127 (pnew0 m om om) h19 ?_
 rintro v K _ (⟨b20,rfl,rfl⟩) h22
 have h24:=(ap1 h22).a.t4
 refine g0<|sP [(2,pV b20)] [iV n,iV m,pV b20,pV r13,.pointer none,.slice none 0 0] h24 fun _ h26=>g0<|cP call128 (ut5_2_New zz om om) h26 ?_
 rintro v K _ (⟨r27,rfl,rfl⟩) h29
 have h31:=(ap1 h29).a.t5
 refine g0<|sP [(4,pV r27)] [iV n,iV m,pV b20,pV r13,pV r27,.slice none 0 0] h31 fun w32 h33=>g0 ?_
 have h34:sat g _ (Sl 257 1 none 0 0 (fl ePB [])::_):=sl_nil 257 1 h33
 have h35:=bs_nil (cs:=(List.replicate 64 (iV 0)++ [iV yy,iV 0,iV 0,.bool true])) (t:=346) h34
 refine lpS (fun mz_ a w=> ∃i:Nat,∃p:Option Addr,∃c:Nat,∃qs:List Nat,∃lr:Fr,mz_=m-i∧(i≤m)∧(qs.length=i)∧a=mk 74 (([(3,iV yy),(10,pV r10),(51,iV m),(52,iV i)]:Fr)++lr)∧sat g w [Cl r10 [iV n,iV m,pV b20,pV r13,pV r27,.slice p i c] 250,Sl 257 1 p i c (fl ePB qs),Bs (List.replicate 64 (iV 0)++ [iV yy,iV 0,iV 0,.bool true]) 346 qs,Cl r27 ([.bool false,iV 0,iV zz]++List.replicate 65 (iV 0)) 344,Cl b20 [iV 0,iV m,iV 0,.bool (decide (0<0)),.bool (decide (1<0)),.bool (decide (2<0)),.bool (decide (3<0)),.bool (decide (0<(m:Int))),.bool (decide (1<(m:Int))),.bool (decide (2<(m:Int))),.bool (decide (3<(m:Int)))] 340,Cl r13 ([iV n]++List.replicate 256 (yV 0)) 336,R]) (m-0) ⟨0,none,0,[],_,rfl,(Nat.zero_le _),rfl,(lvF [.k 3 (iV yy),.k 10 (pV r10),.k 51 (iV m),.o 52 (oJ .i64 0 (0:Int))]),h35.a.b.t7⟩ ?_
 rintro m38 a39 w40 ⟨i,p,c,qs,lr37,rfl,hi_,hq_,rfl,h41⟩
 refine ga<|go [.s 13 0] ?_
 by_cases c42:(i:Int)<(m:Int)
 ·
  refine go [.v 13 0 (oT _ c42)]<|cP call129 (ut5_3_New yy om om) h41 ?_
  rintro v K _ (⟨r43,rfl,rfl⟩) h45
  have h46:=ap1 h45
  refine go [rd 17 4 1 5 1 h46]<|nG (fun q_=> .slice (some ⟨q_,0,none⟩) 1 1) 257 [pV r43] h46 (fun r47 _ h49=>⟨kd [],?_⟩)
  have h50:=h49.c.t9
  refine actG ?_
  refine aA 69 1 (Ot 66) (Ot 68) (.pointer none) p i c 1 1 (⟨r47,0,none⟩) 8 underlying248 h50 (fl ePB [r43]) rfl (cell1 h50 rfl) (fl_one ePB_ok _) (i+1) ?_
  intro p51 cap52 w53 h54
  have h55:sat g _ (Sl 257 1 p51 (i+1) cap52 (fl ePB (qs++ [r43]))::_):=sJ h54
  obtain⟨hn56,hn57⟩:=sl_le h55
  refine nxA ?_
  have h58:=h55.c.t9
  refine g0<|sP [(5,.slice p51 (i+1) cap52)] [iV n,iV m,pV b20,pV r13,pV r27,.slice p51 (i+1) cap52] h58 fun w59 h60=>go [.v 18 0 (oIr ((i:Int)+1))] ?_
  refine enL ?_
  have h62:sat g w59 [Bs (List.replicate 64 (iV 0)++ [iV yy,iV 0,iV 0,.bool true]) 346 (qs++ [r43]),Cl r10 [iV n,iV m,pV b20,pV r13,pV r27,.slice p51 (i+1) cap52] 250,Sl 257 1 p51 (i+1) cap52 (fl ePB (qs++ [r43])),Cl r47 [pV r43] 257,Cl r27 ([.bool false,iV 0,iV zz]++List.replicate 65 (iV 0)) 344,Cl b20 [iV 0,iV m,iV 0,.bool (decide (0<0)),.bool (decide (1<0)),.bool (decide (2<0)),.bool (decide (3<0)),.bool (decide (0<(m:Int))),.bool (decide (1<(m:Int))),.bool (decide (2<(m:Int))),.bool (decide (3<(m:Int)))] 340,Cl r13 ([iV n]++List.replicate 256 (yV 0)) 336,R]:=bs_snoc h60.d.d.t9
  have h64:=tk7 h62.x.x.x.x.d.f.f.t8
  change ∃n',n'<_∧_
  refine⟨(m-(i+1)),by omega,(i+1),p51,cap52,(qs++ [r43]),_,rfl,om,(by rw[List.length_append,hq_];rfl),(lvF [.k 3 (iV yy),.k 10 (pV r10),.k 51 (iV m),.o 52 (oJ .i64 ((i:Int)+1) (((i+1):Nat):Int))]),h64⟩
 refine go [.v 13 0 (oF _ c42)]<|up<|g0 ?_
 obtain rfl:i=m:=by omega
 have h66:sat g _ (Mr r10 n i 0 0 0::_):=Mr_close r10 n i 0 0 0 b20 r13 r27 p c qs zz yy hq_ om om om om om om h41.c.e.e.c.t7
 exact en (.tuple #[pV r10,iV 0]) [] ⟨_,_,rfl,⟨r10,rfl,rfl⟩,h66⟩
def Cy_p(b n m:Nat)(ph cy sn at_ nx bg:Int)(mk sw:Nat)(tl:Int):List Assn:= [Cl b [pV mk,pV sw,iV n,iV m,iV at_,iV bg,Value.bool false] 158,Mr mk n m ph cy sn,Cl sw [iV n,iV nx,iV tl] 263]
def Cy(b n m:Nat)(ph cy sn at_ nx bg:Int):Assn:=fun h=> ∃mk:Nat,∃sw:Nat,∃tl:Int,(1≤m)∧(m≤4)∧(1≤n)∧(n≤256)∧(0≤tl∧tl≤nx)∧star (Cy_p b n m ph cy sn at_ nx bg mk sw tl) h
theorem Cy_open{g w:World}{L_:List Assn}{b:Nat}{n:Nat}{m:Nat}{ph:Int}{cy:Int}{sn:Int}{at_:Int}{nx:Int}{bg:Int}(h:sat g w (Cy b n m ph cy sn at_ nx bg::L_)): ∃mk:Nat,∃sw:Nat,∃tl:Int,(1≤m)∧(m≤4)∧(1≤n)∧(n≤256)∧(0≤tl∧tl≤nx)∧sat g w (Cy_p b n m ph cy sn at_ nx bg mk sw tl++L_):=by
 obtain⟨⟨mk,sw,tl⟩,hp,h2⟩:=sat_open (X:=Nat×Nat×Int) (p:=fun q_=>(1≤m)∧(m≤4)∧(1≤n)∧(n≤256)∧(0≤q_.2.2∧q_.2.2≤nx)) (B:=fun q_=>star (Cy_p b n m ph cy sn at_ nx bg q_.1 q_.2.1 q_.2.2)) h (fun _ hk=>by obtain⟨mk,sw,tl,hp0,hp1,hp2,hp3,hp4,hk⟩:=hk;exact⟨(mk,sw,tl),⟨hp0,hp1,hp2,hp3,hp4⟩,hk⟩)
 exact⟨mk,sw,tl,hp.1,hp.2.1,hp.2.2.1,hp.2.2.2.1,hp.2.2.2.2,sat_unstar h2⟩
theorem Cy_close{g w:World}{L_:List Assn}(b n m:Nat)(ph cy sn at_ nx bg:Int)(mk sw:Nat)(tl:Int)(hp0:1≤m)(hp1:m≤4)(hp2:1≤n)(hp3:n≤256)(hp4:0≤tl∧tl≤nx)(h:sat g w (Cy_p b n m ph cy sn at_ nx bg mk sw tl++L_)):sat g w (Cy b n m ph cy sn at_ nx bg::L_):=sat_imp (sat_star h) fun _ hk=>⟨mk,sw,tl,hp0,hp1,hp2,hp3,hp4,hk⟩
theorem ut6_1_New(a:Nat)(hf0:0≤(a:Int)-1)(hf1:0≤ -(a:Int)+256):HT prog 63 [iV a] [] (fun v K=> ∃r10:Nat,v= .tuple #[pV r10,iV 0]∧K= [Cl r10 [iV a,iV a,iV 0] 263]):=by
 refine hiS func63 ntmps63 fun g w0 R h0=>go [.v 1 1 (oF ((a:Int)<1)),.v 1 4 (oF ((a:Int)>256))]<|nP 263 [iV a,iV a,iV 0] h0 (fun r10 _ h12=> ?_)
 refine g0 ?_
 exact en (.tuple #[pV r10,iV 0]) [] ⟨_,_,rfl,⟨r10,rfl,rfl⟩,h12⟩
theorem cynew(n m:Nat)(qt ba cp qu btc fi zz yy:Int)(hf0:0≤(n:Int)-1)(hf1:0≤ -(n:Int)+256)(hf2:0≤(m:Int)-1)(hf3:0≤ -(m:Int)+4)(hf4:0≤zz-1)(hf5:0≤ -zz+64)(hf6:0≤yy-1)(hf7:0≤ -yy+64):HT prog 29 [.agg #[iV n,iV m,iV zz,iV yy,iV qu,iV qt,iV btc,iV ba,iV cp,uV fi]] [] (fun v K=> ∃b:Nat,v= .tuple #[pV b,iV 0]∧K= [Cy b n m 0 0 0 0 (n:Int) 0]):=by
 refine hiS func29 ntmps29 fun g w0 R h0=>g0<|nP 26 [iV n,iV m,iV zz,iV yy,iV qu,iV qt,iV btc,iV ba,iV cp,uV fi] h0 (fun r10 _ h12=> ?_)
 refine go [rd 1 1 0 0 1 h12,rd 1 3 0 1 1 h12,rd 1 5 0 2 1 h12,rd 1 7 0 3 1 h12]<|cP call62 (mnew n m zz yy om om om om om om om om) h12 ?_
 rintro v K _ (⟨b13,rfl,rfl⟩) h15
 have h16:=ap1 h15
 refine go [rd 4 1 1 0 1 h16]<|cP call63 (ut6_1_New n om om) h16 ?_
 rintro v K _ (⟨r17,rfl,rfl⟩) h19
 have h20:=ap1 h19
 refine go [rd 7 3 2 0 1 h20,rd 7 5 2 1 1 h20]<|nP 158 [pV b13,pV r17,iV n,iV m,iV 0,iV 0,.bool false] h20 (fun r21 w22 h23=> ?_)
 refine g0 ?_
 have h25:sat g _ (Cy r21 n m 0 0 0 0 (n:Int) 0::_):=Cy_close r21 n m 0 0 0 0 (n:Int) 0 b13 r17 0 om om om om om h23.b.a.t5
 exact en (.tuple #[pV r21,iV 0]) [] ⟨_,_,rfl,⟨r21,rfl,rfl⟩,h25.B.t2⟩
theorem ut6_2_valid(a b c d e:Nat)(f i:Int):HQ 114 [pV a] [Cl a [pV b,pV c,iV d,iV e,iV f,iV i,.bool false] 158] (.bool true) [Cl a [pV b,pV c,iV d,iV e,iV f,iV i,.bool false] 158]:=by
 refine hiS func114 ntmps114 fun g w0 R h0=>go [rd 1 6 0 0 1 h0] ?_
 exact enR _ [] h0
theorem cybg(b n m:Nat)(ph cy sn at_ nx bg:Int):HQ 263 [pV b] [Cy b n m ph cy sn at_ nx bg] (iV bg) [Cy b n m ph cy sn at_ nx bg]:=by
 refine hiS func263 ntmps263 fun g w0 R h0=> ?_
 obtain⟨mk10,sw11,tl12,hp13,hp14,hp15,hp16,hp17,h18⟩:=Cy_open h0
 have h19:sat g _ (Cl b [pV mk10,pV sw11,iV n,iV m,iV at_,iV bg,.bool false] 158::_):=h18
 refine g0<|cl1 call114 (ut6_2_valid b mk10 sw11 n m at_ bg) h19 fun w20 h21=>go [rd 3 3 0 5 1 h21] ?_
 have h22:sat g _ (Cy b n m ph cy sn at_ nx bg::_):=Cy_close b n m ph cy sn at_ nx bg mk10 sw11 tl12 hp13 hp14 hp15 hp16 hp17 h21
 exact enR _ [] h22
theorem cyen(b n m:Nat)(ph cy sn at_ nx bg:Int):HQ 264 [pV b] [Cy b n m ph cy sn at_ nx bg] (iV cy) [Cy b n m ph cy sn at_ nx bg]:=by
 refine hiS func264 ntmps264 fun g w0 R h0=> ?_
 obtain⟨mk10,sw11,tl12,hp13,hp14,hp15,hp16,hp17,h18⟩:=Cy_open h0
 have h19:sat g _ (Cl b [pV mk10,pV sw11,iV n,iV m,iV at_,iV bg,.bool false] 158::_):=h18
 refine g0<|cl1 call114 (ut6_2_valid b mk10 sw11 n m at_ bg) h19 fun _ h21=> ?_
 have h22:=h21.a.t4
 refine go [rd 3 3 0 0 1 h21]<|cl1 call342 (mcyc mk10 n m cy ph sn) h22 fun w23 h24=>g0 ?_
 have h26:sat g _ (Cy b n m ph cy sn at_ nx bg::_):=Cy_close b n m ph cy sn at_ nx bg mk10 sw11 tl12 hp13 hp14 hp15 hp16 hp17 h24.a.t4
 exact enR _ [] h26
theorem ut6_3_begin(j c d e:Nat)(k l:Int)(f:Nat)(i b:Int)(hf0:0≤b+9223372036854775809)(hf1:0≤ -b+9223372036854775806):HQ 317 [pV j] [Mr c d e 0 k l,Cl j [pV c,pV f,iV d,iV e,iV i,iV b,.bool false] 158] (iV 0) [Mr c d e 1 k 0,Cl j [pV c,pV f,iV d,iV e,iV i,iV (b+1),.bool false] 158]:=by
 refine hiS func317 ntmps317 fun g w0 R h0=> ?_
 have h10:=h0.a.t3
 refine g0<|sP [(6,.bool false)] [pV c,pV f,iV d,iV e,iV i,iV b,.bool false] h10 fun _ h12=>go [rd 2 3 0 5 1 h12,.v 2 4 (oIr (b+1))]<|sP [(5,iV (b+1))] [pV c,pV f,iV d,iV e,iV i,iV (b+1),.bool false] h12 fun _ h14=> ?_
 have h15:=h14.a.t3
 refine go [rd 3 3 0 0 1 h14]<|cl1 call389 (mbegin c d e k l) h15 fun _ h17=>g0 ?_
 exact enR _ [] h17
theorem cyask(b n m:Nat)(cy sn at_ nx bg:Int)(hf0:0≤bg)(hf1:0≤ -bg+1000000):HQ 226 [pV b] [Cy b n m 0 cy sn at_ nx bg] (.bool true) [Cy b n m 1 cy 0 at_ nx (bg+1)]:=by
 refine hiS func226 ntmps226 fun g w0 R h0=> ?_
 obtain⟨mk10,sw11,tl12,hp13,hp14,hp15,hp16,hp17,h18⟩:=Cy_open h0
 have h19:sat g _ (Cl b [pV mk10,pV sw11,iV n,iV m,iV at_,iV bg,.bool false] 158::_):=h18
 refine g0<|cl1 call114 (ut6_2_valid b mk10 sw11 n m at_ bg) h19 fun _ h21=> ?_
 have h22:=h21.a.t4
 refine go [rd 3 3 0 0 1 h21]<|cl1 call291 (mphase mk10 n m cy 0 sn) h22 fun _ h24=>g0<|cl2 call317 (ut6_3_begin b mk10 n m cy sn sw11 at_ bg om om) h24 fun w25 h26=>g0 ?_
 have h28:sat g _ (Cy b n m 1 cy 0 at_ nx (bg+1)::_):=Cy_close b n m 1 cy 0 at_ nx (bg+1) mk10 sw11 tl12 hp13 hp14 hp15 hp16 hp17 h26.a.t4
 exact enR _ [] h28
theorem cyackx0(b n m:Nat)(ph cy sn at_ nx bg:Int)(ar:Nat)(A:List Sl2)(j:Nat)(hf0:0≤ph-3)(hf1:0≤(m:Int)-(j:Int)-1):HQ 197 [pV b,pV ar,iV j] [Cy b n m ph cy sn at_ nx bg,Ar0 ar n m A] (.tuple #[.bool false,iV 8]) [Cy b n m ph cy sn at_ nx bg,Ar0 ar n m A]:=by
 refine hiS func197 ntmps197 fun g w0 R h0=> ?_
 obtain⟨mk10,sw11,tl12,hp13,hp14,hp15,hp16,hp17,h18⟩:=Cy_open h0
 have h19:sat g _ (Cl b [pV mk10,pV sw11,iV n,iV m,iV at_,iV bg,.bool false] 158::_):=h18
 refine g0<|cl1 call114 (ut6_2_valid b mk10 sw11 n m at_ bg) h19 fun _ h21=> ?_
 have h22:=h21.c.b.t5
 refine go [rd 3 3 0 0 1 h21]<|cl2 call261 (mackx0 mk10 n m cy ph sn ar A j om om) h22 fun w23 h24=>g0 ?_
 have h26:sat g _ (Cy b n m ph cy sn at_ nx bg::_):=Cy_close b n m ph cy sn at_ nx bg mk10 sw11 tl12 hp13 hp14 hp15 hp16 hp17 h24.c.a.c.t5
 exact enR _ [] h26
theorem cyacki0(b n m:Nat)(cy sn at_ nx bg:Int)(ar:Nat)(A:List Sl2)(j:Nat)(hf0:0≤(m:Int)-(j:Int)-1):HQ 197 [pV b,pV ar,iV j] [Cy b n m 0 cy sn at_ nx bg,Ar0 ar n m A] (.tuple #[.bool false,iV 8]) [Cy b n m 0 cy sn at_ nx bg,Ar0 ar n m A]:=by
 refine hiS func197 ntmps197 fun g w0 R h0=> ?_
 obtain⟨mk10,sw11,tl12,hp13,hp14,hp15,hp16,hp17,h18⟩:=Cy_open h0
 have h19:sat g _ (Cl b [pV mk10,pV sw11,iV n,iV m,iV at_,iV bg,.bool false] 158::_):=h18
 refine g0<|cl1 call114 (ut6_2_valid b mk10 sw11 n m at_ bg) h19 fun _ h21=> ?_
 have h22:=h21.c.b.t5
 refine go [rd 3 3 0 0 1 h21]<|cl2 call261 (macki0 mk10 n m cy sn ar A j om) h22 fun w23 h24=>g0 ?_
 have h26:sat g _ (Cy b n m 0 cy sn at_ nx bg::_):=Cy_close b n m 0 cy sn at_ nx bg mk10 sw11 tl12 hp13 hp14 hp15 hp16 hp17 h24.c.a.c.t5
 exact enR _ [] h26
theorem cyackx1(b n m:Nat)(ph cy sn at_ nx bg:Int)(ar:Nat)(A:List Sl2)(s:Nat)(gn:Int)(j:Nat)(hf0:0≤ph-3)(hf1:0≤(m:Int)-(j:Int)-1):HQ 197 [pV b,pV ar,iV j] [Cy b n m ph cy sn at_ nx bg,Ar1 ar n m A s gn] (.tuple #[.bool false,iV 8]) [Cy b n m ph cy sn at_ nx bg,Ar1 ar n m A s gn]:=by
 refine hiS func197 ntmps197 fun g w0 R h0=> ?_
 obtain⟨mk10,sw11,tl12,hp13,hp14,hp15,hp16,hp17,h18⟩:=Cy_open h0
 have h19:sat g _ (Cl b [pV mk10,pV sw11,iV n,iV m,iV at_,iV bg,.bool false] 158::_):=h18
 refine g0<|cl1 call114 (ut6_2_valid b mk10 sw11 n m at_ bg) h19 fun _ h21=> ?_
 have h22:=h21.c.b.t5
 refine go [rd 3 3 0 0 1 h21]<|cl2 call261 (mackx1 mk10 n m cy ph sn ar A s gn j om om) h22 fun w23 h24=>g0 ?_
 have h26:sat g _ (Cy b n m ph cy sn at_ nx bg::_):=Cy_close b n m ph cy sn at_ nx bg mk10 sw11 tl12 hp13 hp14 hp15 hp16 hp17 h24.c.a.c.t5
 exact enR _ [] h26
theorem cyack1(b n m:Nat)(cy at_ nx bg:Int)(ar:Nat)(A:List Sl2)(s:Nat)(gn:Int)(j:Nat)(hf0:0≤(m:Int)-(j:Int)-1):HQ 197 [pV b,pV ar,iV j] [Cy b n m 1 cy (j:Int) at_ nx bg,Ar1 ar n m A s gn] (.tuple #[.bool true,iV 0]) [Cy b n m 1 cy ((j:Int)+1) at_ nx bg,Ar1 ar n m A s gn]:=by
 refine hiS func197 ntmps197 fun g w0 R h0=> ?_
 obtain⟨mk10,sw11,tl12,hp13,hp14,hp15,hp16,hp17,h18⟩:=Cy_open h0
 have h19:sat g _ (Cl b [pV mk10,pV sw11,iV n,iV m,iV at_,iV bg,.bool false] 158::_):=h18
 refine g0<|cl1 call114 (ut6_2_valid b mk10 sw11 n m at_ bg) h19 fun _ h21=> ?_
 have h22:=h21.c.b.t5
 refine go [rd 3 3 0 0 1 h21]<|cl2 call261 (mack1 mk10 n m cy ar A s gn j om) h22 fun w23 h24=>g0 ?_
 have h26:sat g _ (Cy b n m 1 cy ((j:Int)+1) at_ nx bg::_):=Cy_close b n m 1 cy ((j:Int)+1) at_ nx bg mk10 sw11 tl12 hp13 hp14 hp15 hp16 hp17 h24.c.a.c.t5
 exact enR _ [] h26
theorem cyack2(b n m:Nat)(cy at_ nx bg:Int)(ar:Nat)(A:List Sl2)(s:Nat)(gn:Int)(j:Nat)(hf0:0≤(m:Int)-(j:Int)-1):HQ 197 [pV b,pV ar,iV j] [Cy b n m 2 cy (j:Int) at_ nx bg,Ar1 ar n m A s gn] (.tuple #[.bool true,iV 0]) [Cy b n m 2 cy ((j:Int)+1) at_ nx bg,Ar1 ar n m A s gn]:=by
 refine hiS func197 ntmps197 fun g w0 R h0=> ?_
 obtain⟨mk10,sw11,tl12,hp13,hp14,hp15,hp16,hp17,h18⟩:=Cy_open h0
 have h19:sat g _ (Cl b [pV mk10,pV sw11,iV n,iV m,iV at_,iV bg,.bool false] 158::_):=h18
 refine g0<|cl1 call114 (ut6_2_valid b mk10 sw11 n m at_ bg) h19 fun _ h21=> ?_
 have h22:=h21.c.b.t5
 refine go [rd 3 3 0 0 1 h21]<|cl2 call261 (mack2 mk10 n m cy ar A s gn j om) h22 fun w23 h24=>g0 ?_
 have h26:sat g _ (Cy b n m 2 cy ((j:Int)+1) at_ nx bg::_):=Cy_close b n m 2 cy ((j:Int)+1) at_ nx bg mk10 sw11 tl12 hp13 hp14 hp15 hp16 hp17 h24.c.a.c.t5
 exact enR _ [] h26
theorem ut6_4_steps:HQ 290 [] [] (.agg #[.func (Fn.func 364) #[] #[],.func (Fn.func 365) #[] #[],.func (Fn.func 365) #[] #[],.func (Fn.func 365) #[] #[],.func (Fn.func 366) #[] #[],.func (Fn.func 367) #[] #[]]) []:=by
 refine hiS func290 ntmps290 fun g w0 R h0=>g0<|nP 427 [Value.nilFunc,Value.nilFunc,Value.nilFunc,Value.nilFunc,Value.nilFunc,Value.nilFunc] h0 (fun _ _ h12=> ?_)
 refine g0<|sA [.func (Fn.func 364) #[] #[],.func (Fn.func 365) #[] #[],.func (Fn.func 365) #[] #[],.func (Fn.func 365) #[] #[],.func (Fn.func 366) #[] #[],.func (Fn.func 367) #[] #[]] h12 fun _ h14=>g0 ?_
 exact enR _ [rd 0 0 0 0 6 h14] h14.a.t1
theorem ut6_5_rest(b k:Nat)(l:Int)(c d e f:Nat)(i j:Int):HQ 364 [pV b,pV k,iV l] [Cl b [pV c,pV f,iV d,iV e,iV i,iV j,.bool false] 158] (.tuple #[.agg #[iV 0,uV 0],.bool false,iV 0]) [Cl b [pV c,pV f,iV d,iV e,iV i,iV j,.bool false] 158]:=by
 refine hiS func364 ntmps364 fun g w0 R h0=>g0<|nP 203 [iV 0,uV 0] h0 (fun _ _ h12=> ?_)
 refine go [rd 1 3 1 6 1 h12]<|sA [iV 0,uV 0] h12 fun _ h14=>g0 ?_
 exact enR _ [rd 0 0 0 0 2 h14] (tk2 (sf1 (sf2 h14.a.t3)))
theorem cyst0(b n m:Nat)(cy sn at_ nx bg:Int)(ar:Nat)(A:List Sl2)(rm:Int)(hf0:0≤rm):HQ 213 [pV b,pV ar,iV rm] [Cy b n m 0 cy sn at_ nx bg,Ar0 ar n m A] (.tuple #[.agg #[iV 0,uV 0],.bool false,iV 0]) [Cy b n m 0 cy sn at_ nx bg,Ar0 ar n m A]:=by
 refine hiS func213 ntmps213 fun g w0 R h0=> ?_
 obtain⟨mk10,sw11,tl12,hp13,hp14,hp15,hp16,hp17,h18⟩:=Cy_open h0
 have h19:sat g _ (Cl b [pV mk10,pV sw11,iV n,iV m,iV at_,iV bg,.bool false] 158::_):=h18
 refine g0<|nP 203 [iV 0,uV 0] h19 (fun r20 _ h22=> ?_)
 have h23:=h22.d.t6
 refine g0<|cl1 call289 (asizes0 ar n m A) h23 fun _ h25=> ?_
 have h26:=h25.b.t6
 refine g0<|cl1 call114 (ut6_2_valid b mk10 sw11 n m at_ bg) h26 fun _ h28=>go [.v 2 5 (qeF (n:Int) 0),rd 4 4 0 2 1 h28,.v 4 5 (qnF (n:Int) (n:Int)),rd 4 11 0 3 1 h28,.v 4 12 (qnF (m:Int) (m:Int)),.v 4 16 (oF (rm<0))]<|dw (fls [1,2,3,4,7,8,9] (Tr.an 0 (Tr.an 5 (Tr.fl 6 (Tr.an 10 (fls [11,12,13] (Tr.an 14 (fls [15,16] Tr.nil)))))))) h28 fun _ h30=>go [rd 6 4 0 0 1 h30]<|cw0 call290 ut6_4_steps h30 fun _ h32=>⟨kd [rd 0 4 0 0 1 h32],?_⟩
 refine cw1 call291 (mphase mk10 n m cy 0 sn) h32.c.t6 fun _ h35=>⟨kd [],?_⟩
 have h36:=h35.a.t6
 refine g0<|cw1 call364 (ut6_5_rest b ar rm mk10 n m sw11 at_ bg) h36 fun _ h38=>⟨kd [],?_⟩
 have h39:=h38.c.t6
 refine g0<|sB [iV 0,uV 0] h39 fun w40 h41=>⟨kd [],?_⟩
 refine g0 ?_
 have h43:sat g _ (Cy b n m 0 cy sn at_ nx bg::_):=Cy_close b n m 0 cy sn at_ nx bg mk10 sw11 tl12 hp13 hp14 hp15 hp16 hp17 h41.d.c.c.t6
 exact enR _ [rd 0 0 0 0 2 h41] (tk3 (sf2 (sf2 (sf3 h43.b.a.t4))))
theorem ut6_6_mark(j f:Nat)(s:Int)(e d a:Nat)(i:Int)(o:Nat)(p q:Int)(k:List Sl2)(l:Nat)(m:Int):HQ 365 [pV j,pV f,iV s] [Mr e d a 1 i (a:Int),Cl j [pV e,pV o,iV d,iV a,iV p,iV q,.bool false] 158,Ar1 f d a k l m] (.tuple #[.agg #[iV 0,uV 0],.bool false,iV 0]) [Mr e d a 2 i 0,Cl j [pV e,pV o,iV d,iV a,iV p,iV q,.bool false] 158,Ar1 f d a k l m]:=by
 refine hiS func365 ntmps365 fun g w0 R h0=>g0<|nP 203 [iV 0,uV 0] h0 (fun _ _ h12=> ?_)
 have h13:=h12.c.b.t5
 refine go [rd 1 3 2 0 1 h12]<|cl2 call405 (mst1 e d a i f k l m) h13 fun _ h15=>go [rd 2 3 3 0 1 h15]<|cl1 call291 (mphase e d a i 2 0) h15 fun _ h17=> ?_
 have h18:=h17.b.t5
 refine g0<|sA [iV 0,uV 0] h18 fun _ h20=>g0 ?_
 exact enR _ [rd 0 0 0 0 2 h20] (tk4 (sf3 (sf3 (sf3 (sf4 h20.b.c.c.t5)))))
theorem cyst1(b n m:Nat)(cy at_ nx bg:Int)(ar:Nat)(A:List Sl2)(s:Nat)(gn rm:Int)(hf0:0≤rm):HQ 213 [pV b,pV ar,iV rm] [Cy b n m 1 cy (m:Int) at_ nx bg,Ar1 ar n m A s gn] (.tuple #[.agg #[iV 0,uV 0],.bool false,iV 0]) [Cy b n m 2 cy 0 at_ nx bg,Ar1 ar n m A s gn]:=by
 refine hiS func213 ntmps213 fun g w0 R h0=> ?_
 obtain⟨mk10,sw11,tl12,hp13,hp14,hp15,hp16,hp17,h18⟩:=Cy_open h0
 have h19:sat g _ (Cl b [pV mk10,pV sw11,iV n,iV m,iV at_,iV bg,.bool false] 158::_):=h18
 refine g0<|nP 203 [iV 0,uV 0] h19 (fun r20 _ h22=> ?_)
 have h23:=h22.d.t6
 refine g0<|cl1 call289 (asizes1 ar n m A s gn) h23 fun _ h25=> ?_
 have h26:=h25.b.t6
 refine g0<|cl1 call114 (ut6_2_valid b mk10 sw11 n m at_ bg) h26 fun _ h28=>go [.v 2 5 (qeF (n:Int) 0),rd 4 4 0 2 1 h28,.v 4 5 (qnF (n:Int) (n:Int)),rd 4 11 0 3 1 h28,.v 4 12 (qnF (m:Int) (m:Int)),.v 4 16 (oF (rm<0))]<|dw (fls [1,2,3,4,7,8,9] (Tr.an 0 (Tr.an 5 (Tr.fl 6 (Tr.an 10 (fls [11,12,13] (Tr.an 14 (fls [15,16] Tr.nil)))))))) h28 fun _ h30=>go [rd 6 4 0 0 1 h30]<|cw0 call290 ut6_4_steps h30 fun _ h32=>⟨kd [rd 0 4 0 0 1 h32],?_⟩
 refine cw1 call291 (mphase mk10 n m cy 1 (m:Int)) h32.c.t6 fun _ h35=>⟨kd [],?_⟩
 refine g0<|cw3 call365 (ut6_6_mark b ar rm mk10 n m cy sw11 at_ bg A s gn) h35 fun _ h37=>⟨kd [],?_⟩
 have h38:=h37.c.t6
 refine g0<|sB [iV 0,uV 0] h38 fun w39 h40=>⟨kd [],?_⟩
 refine g0 ?_
 have h42:sat g _ (Cy b n m 2 cy 0 at_ nx bg::_):=Cy_close b n m 2 cy 0 at_ nx bg mk10 sw11 tl12 hp13 hp14 hp15 hp16 hp17 h40.d.b.c.t6
 exact enR _ [rd 0 0 0 0 2 h40] (tk3 (sf2 (sf2 (sf3 h42.b.a.t4))))
theorem ut6_7_mark(j f:Nat)(s:Int)(e d a:Nat)(i:Int)(o:Nat)(p q:Int)(k:List Sl2)(l:Nat)(m:Int):HQ 365 [pV j,pV f,iV s] [Mr e d a 2 i (a:Int),Cl j [pV e,pV o,iV d,iV a,iV p,iV q,.bool false] 158,Ar1 f d a k l m] (.tuple #[.agg #[iV 0,uV 0],.bool false,iV 0]) [Mr e d a 3 i 0,Cl j [pV e,pV o,iV d,iV a,iV p,iV q,.bool false] 158,Ar1 f d a k l m]:=by
 refine hiS func365 ntmps365 fun g w0 R h0=>g0<|nP 203 [iV 0,uV 0] h0 (fun _ _ h12=> ?_)
 have h13:=h12.c.b.t5
 refine go [rd 1 3 2 0 1 h12]<|cl2 call405 (mst2 e d a i f k l m) h13 fun _ h15=>go [rd 2 3 3 0 1 h15]<|cl1 call291 (mphase e d a i 3 0) h15 fun _ h17=> ?_
 have h18:=h17.b.t5
 refine g0<|sA [iV 0,uV 0] h18 fun _ h20=>g0 ?_
 exact enR _ [rd 0 0 0 0 2 h20] (tk4 (sf3 (sf3 (sf3 (sf4 h20.b.c.c.t5)))))
theorem cyst2(b n m:Nat)(cy at_ nx bg:Int)(ar:Nat)(A:List Sl2)(s:Nat)(gn rm:Int)(hf0:0≤rm):HQ 213 [pV b,pV ar,iV rm] [Cy b n m 2 cy (m:Int) at_ nx bg,Ar1 ar n m A s gn] (.tuple #[.agg #[iV 0,uV 0],.bool false,iV 0]) [Cy b n m 3 cy 0 at_ nx bg,Ar1 ar n m A s gn]:=by
 refine hiS func213 ntmps213 fun g w0 R h0=> ?_
 obtain⟨mk10,sw11,tl12,hp13,hp14,hp15,hp16,hp17,h18⟩:=Cy_open h0
 have h19:sat g _ (Cl b [pV mk10,pV sw11,iV n,iV m,iV at_,iV bg,.bool false] 158::_):=h18
 refine g0<|nP 203 [iV 0,uV 0] h19 (fun r20 _ h22=> ?_)
 have h23:=h22.d.t6
 refine g0<|cl1 call289 (asizes1 ar n m A s gn) h23 fun _ h25=> ?_
 have h26:=h25.b.t6
 refine g0<|cl1 call114 (ut6_2_valid b mk10 sw11 n m at_ bg) h26 fun _ h28=>go [.v 2 5 (qeF (n:Int) 0),rd 4 4 0 2 1 h28,.v 4 5 (qnF (n:Int) (n:Int)),rd 4 11 0 3 1 h28,.v 4 12 (qnF (m:Int) (m:Int)),.v 4 16 (oF (rm<0))]<|dw (fls [1,2,3,4,7,8,9] (Tr.an 0 (Tr.an 5 (Tr.fl 6 (Tr.an 10 (fls [11,12,13] (Tr.an 14 (fls [15,16] Tr.nil)))))))) h28 fun _ h30=>go [rd 6 4 0 0 1 h30]<|cw0 call290 ut6_4_steps h30 fun _ h32=>⟨kd [rd 0 4 0 0 1 h32],?_⟩
 refine cw1 call291 (mphase mk10 n m cy 2 (m:Int)) h32.c.t6 fun _ h35=>⟨kd [],?_⟩
 refine g0<|cw3 call365 (ut6_7_mark b ar rm mk10 n m cy sw11 at_ bg A s gn) h35 fun _ h37=>⟨kd [],?_⟩
 have h38:=h37.c.t6
 refine g0<|sB [iV 0,uV 0] h38 fun w39 h40=>⟨kd [],?_⟩
 refine g0 ?_
 have h42:sat g _ (Cy b n m 3 cy 0 at_ nx bg::_):=Cy_close b n m 3 cy 0 at_ nx bg mk10 sw11 tl12 hp13 hp14 hp15 hp16 hp17 h40.d.b.c.t6
 exact enR _ [rd 0 0 0 0 2 h40] (tk3 (sf2 (sf2 (sf3 h42.b.a.t4))))
theorem ut6_8_mark(j f:Nat)(s:Int)(e a d:Nat)(i:Int)(o:Nat)(p q:Int)(k:List Sl2)(l:Nat)(m:Int):HQ 365 [pV j,pV f,iV s] [Mr e a d 2 i 0,Cl j [pV e,pV o,iV a,iV d,iV p,iV q,.bool false] 158,Ar1 f a d k l m] (.tuple #[.agg #[iV 0,uV 0],.bool false,iV 0]) [Mr e a d 2 i 0,Cl j [pV e,pV o,iV a,iV d,iV p,iV q,.bool false] 158,Ar1 f a d k l m]:=by
 refine hiS func365 ntmps365 fun g w0 R h0=>g0<|nP 203 [iV 0,uV 0] h0 (fun _ _ h12=> ?_)
 have h13:=h12.c.b.t5
 refine go [rd 1 3 2 0 1 h12]<|cl2 call405 (mst2n e a d i f k l m) h13 fun _ h15=>go [rd 2 3 3 0 1 h15]<|cl1 call291 (mphase e a d i 2 0) h15 fun _ h17=> ?_
 have h18:=h17.b.t5
 refine g0<|sA [iV 0,uV 0] h18 fun _ h20=>g0 ?_
 exact enR _ [rd 0 0 0 0 2 h20] (tk4 (sf3 (sf3 (sf3 (sf4 h20.b.c.c.t5)))))
theorem cyst2n(b n m:Nat)(cy at_ nx bg:Int)(ar:Nat)(A:List Sl2)(s:Nat)(gn rm:Int)(hf0:0≤rm):HQ 213 [pV b,pV ar,iV rm] [Cy b n m 2 cy 0 at_ nx bg,Ar1 ar n m A s gn] (.tuple #[.agg #[iV 0,uV 0],.bool false,iV 0]) [Cy b n m 2 cy 0 at_ nx bg,Ar1 ar n m A s gn]:=by
 refine hiS func213 ntmps213 fun g w0 R h0=> ?_
 obtain⟨mk10,sw11,tl12,hp13,hp14,hp15,hp16,hp17,h18⟩:=Cy_open h0
 have h19:sat g _ (Cl b [pV mk10,pV sw11,iV n,iV m,iV at_,iV bg,.bool false] 158::_):=h18
 refine g0<|nP 203 [iV 0,uV 0] h19 (fun r20 _ h22=> ?_)
 have h23:=h22.d.t6
 refine g0<|cl1 call289 (asizes1 ar n m A s gn) h23 fun _ h25=> ?_
 have h26:=h25.b.t6
 refine g0<|cl1 call114 (ut6_2_valid b mk10 sw11 n m at_ bg) h26 fun _ h28=>go [.v 2 5 (qeF (n:Int) 0),rd 4 4 0 2 1 h28,.v 4 5 (qnF (n:Int) (n:Int)),rd 4 11 0 3 1 h28,.v 4 12 (qnF (m:Int) (m:Int)),.v 4 16 (oF (rm<0))]<|dw (fls [1,2,3,4,7,8,9] (Tr.an 0 (Tr.an 5 (Tr.fl 6 (Tr.an 10 (fls [11,12,13] (Tr.an 14 (fls [15,16] Tr.nil)))))))) h28 fun _ h30=>go [rd 6 4 0 0 1 h30]<|cw0 call290 ut6_4_steps h30 fun _ h32=>⟨kd [rd 0 4 0 0 1 h32],?_⟩
 refine cw1 call291 (mphase mk10 n m cy 2 0) h32.c.t6 fun _ h35=>⟨kd [],?_⟩
 refine g0<|cw3 call365 (ut6_8_mark b ar rm mk10 n m cy sw11 at_ bg A s gn) h35 fun _ h37=>⟨kd [],?_⟩
 have h38:=h37.c.t6
 refine g0<|sB [iV 0,uV 0] h38 fun w39 h40=>⟨kd [],?_⟩
 refine g0 ?_
 have h42:sat g _ (Cy b n m 2 cy 0 at_ nx bg::_):=Cy_close b n m 2 cy 0 at_ nx bg mk10 sw11 tl12 hp13 hp14 hp15 hp16 hp17 h40.d.b.c.t6
 exact enR _ [rd 0 0 0 0 2 h40] (tk3 (sf2 (sf2 (sf3 h42.b.a.t4))))
theorem ut6_9_mark(j f:Nat)(s:Int)(e a d:Nat)(i q:Int)(k:Nat)(t l:Int)(m:List Sl2)(o:Nat)(p:Int):HQ 365 [pV j,pV f,iV s] [Mr e a d 3 i q,Cl j [pV e,pV k,iV a,iV d,iV t,iV l,.bool false] 158,Ar1 f a d m o p] (.tuple #[.agg #[iV 0,uV 0],.bool false,iV 0]) [Mr e a d 4 i 0,Cl j [pV e,pV k,iV a,iV d,iV 0,iV l,.bool false] 158,Ar1 f a d m o p]:=by
 refine hiS func365 ntmps365 fun g w0 R h0=>g0<|nP 203 [iV 0,uV 0] h0 (fun _ _ h12=> ?_)
 have h13:=h12.c.b.t5
 refine go [rd 1 3 2 0 1 h12]<|cl2 call405 (mst3 e a d i f m o p q) h13 fun _ h15=>go [rd 2 3 3 0 1 h15]<|cl1 call291 (mphase e a d i 4 0) h15 fun _ h17=> ?_
 have h18:=h17.c.t5
 refine g0<|sP [(4,iV 0)] [pV e,pV k,iV a,iV d,iV 0,iV l,.bool false] h18 fun _ h20=> ?_
 have h21:=h20.c.t5
 refine g0<|sA [iV 0,uV 0] h21 fun _ h23=>g0 ?_
 exact enR _ [rd 0 0 0 0 2 h23] (tk4 (sf3 (sf3 (sf3 (sf4 h23.c.b.c.t5)))))
theorem cyst3(b n m:Nat)(cy sn at_ nx bg:Int)(ar:Nat)(A:List Sl2)(s:Nat)(gn rm:Int)(hf0:0≤rm):HQ 213 [pV b,pV ar,iV rm] [Cy b n m 3 cy sn at_ nx bg,Ar1 ar n m A s gn] (.tuple #[.agg #[iV 0,uV 0],.bool false,iV 0]) [Cy b n m 4 cy 0 0 nx bg,Ar1 ar n m A s gn]:=by
 refine hiS func213 ntmps213 fun g w0 R h0=> ?_
 obtain⟨mk10,sw11,tl12,hp13,hp14,hp15,hp16,hp17,h18⟩:=Cy_open h0
 have h19:sat g _ (Cl b [pV mk10,pV sw11,iV n,iV m,iV at_,iV bg,.bool false] 158::_):=h18
 refine g0<|nP 203 [iV 0,uV 0] h19 (fun r20 _ h22=> ?_)
 have h23:=h22.d.t6
 refine g0<|cl1 call289 (asizes1 ar n m A s gn) h23 fun _ h25=> ?_
 have h26:=h25.b.t6
 refine g0<|cl1 call114 (ut6_2_valid b mk10 sw11 n m at_ bg) h26 fun _ h28=>go [.v 2 5 (qeF (n:Int) 0),rd 4 4 0 2 1 h28,.v 4 5 (qnF (n:Int) (n:Int)),rd 4 11 0 3 1 h28,.v 4 12 (qnF (m:Int) (m:Int)),.v 4 16 (oF (rm<0))]<|dw (fls [1,2,3,4,7,8,9] (Tr.an 0 (Tr.an 5 (Tr.fl 6 (Tr.an 10 (fls [11,12,13] (Tr.an 14 (fls [15,16] Tr.nil)))))))) h28 fun _ h30=>go [rd 6 4 0 0 1 h30]<|cw0 call290 ut6_4_steps h30 fun _ h32=>⟨kd [rd 0 4 0 0 1 h32],?_⟩
 refine cw1 call291 (mphase mk10 n m cy 3 sn) h32.c.t6 fun _ h35=>⟨kd [],?_⟩
 refine g0<|cw3 call365 (ut6_9_mark b ar rm mk10 n m cy sn sw11 at_ bg A s gn) h35 fun _ h37=>⟨kd [],?_⟩
 have h38:=h37.c.t6
 refine g0<|sB [iV 0,uV 0] h38 fun w39 h40=>⟨kd [],?_⟩
 refine g0 ?_
 have h42:sat g _ (Cy b n m 4 cy 0 0 nx bg::_):=Cy_close b n m 4 cy 0 0 nx bg mk10 sw11 tl12 hp13 hp14 hp15 hp16 hp17 h40.d.b.c.t6
 exact enR _ [rd 0 0 0 0 2 h40] (tk3 (sf2 (sf2 (sf3 h42.b.a.t4))))
theorem ut7_1_All(f c:Nat)(i:List Sl2)(d:Nat)(j:Int)(e:Nat)(k:inS 1 i 0= [(d,j)]):HT prog 435 [pV f] [Cl f (pV e::iV c::fl eHo (F256.set d true)) 237,Tb e c i] (fun v K=> ∃p12:Option Addr,∃c13:Nat,v= .slice p12 1 c13∧K= [Cl f (pV e::iV c::fl eHo (F256.set d true)) 237,Tb e c i,Sl 203 2 p12 1 c13 (fl eRf [(d,j)])]):=by
 refine hiS func435 ntmps435 fun g w0 R h0=>g0<|cl1 call173 (ut1_5_valid f d e c) h0 fun _ h11=> ?_
 have h14:=h11.a.t3
 refine go [rd 3 3 0 0 1 h11]<|cP call459 (taken1_ht e c i d j k) h14 ?_
 rintro v K _ (⟨p12,c13,rfl,rfl⟩) h16
 have h17:=ap2 h16
 refine g0 ?_
 exact en (.slice p12 1 c13) [] ⟨_,_,rfl,⟨p12,c13,rfl,rfl⟩,h17.b.t4⟩
theorem ut7_2_lost(p m e o i k:Nat)(q t:Int)(u:Nat)(y:Int)(l:List Sl2)(f:Int)(z:inS 1 l 0= [(e,f)])(hf0:0≤(i:Int)-(e:Int)-1):HQ 406 [pV p,pV m,iV e] [Mr o i k 4 q t,Cl p [pV o,pV u,iV i,iV k,iV e,iV y,.bool false] 158,Ar1 m i k l e f] (.tuple #[.agg #[iV e,uV f],.bool true]) [Mr o i k 4 q t,Cl p [pV o,pV u,iV i,iV k,iV e,iV y,.bool false] 158,Ar1 m i k l e f]:=by
 refine hiS func406 ntmps406 fun g w0 R h0=>g0<|nP 203 [iV 0,uV 0] h0 (fun _ _ h12=> ?_)
 have h13:=h12.a.t5
 refine go [rd 1 3 2 0 1 h12]<|cl1 call434 (mmark o i k q 4 t (e:Int) om om) h13 fun _ h15=> ?_
 have h18:=h15.c.t5
 refine g0<|cP call266 (aheap1 m i k l e f) h18 ?_
 rintro v K _ (⟨h16,t17,rfl,rfl⟩) h20
 refine cP call435 (ut7_1_All h16 i l e f t17 z) ((ap3 h20).b.b.t7) ?_
 rintro v K _ (⟨p22,c23,rfl,rfl⟩) h26
 have h27:=ap3 h26
 refine go [.v 4 3 (oJ .i64 (1:Int) 1)]<|unS 39 ?_
 obtain⟨b28,hp29⟩:=sl_ptr0 (j:=2) h27 rfl om
 refine go [.s 6 0]<|lwP (pV b28) (liP (Ot 31) (Ot 33) p22 b28 0 0 1 c23 underlying392 2 0 hp29 0) ?_
 have h30:=h27.b.t8
 have hl31:=fl_n eRf_ok dc h30
 refine go [.r 6 1 b28 0 [iV e,uV f] ⟨gvc 0 h30 rfl hp29 eRf_ok 0 (iV e) (show ([(e,f)]:List (Nat×Int))[0]? =some (e,f) from rfl) 0,gvc 0 h30 rfl hp29 eRf_ok 1 (uV f) (show ([(e,f)]:List (Nat×Int))[0]? =some (e,f) from rfl) 1,trivial⟩]<|nP 203 [iV 0,uV 0] h30 (fun _ _ h34=> ?_)
 refine sA [iV e,uV f] h34 fun _ h36=> ?_
 have h37:=h36.d.t9
 refine go [rd 7 1 0 0 1 h36,.v 7 3 (qnF (e:Int) (e:Int)),rd 8 1 0 0 2 h36]<|cl1 call436 (aobj_ht m i k l e f) h37 fun _ h39=>g0<|nP 234 [iV 0,iV 0,uV 0,iV 0,uV 0,iV 0,uV 0,iV 0,uV 0,.bool false] h39 (fun _ _ h42=> ?_)
 refine sA [iV 0,iV 0,uV 0,iV 0,uV 0,iV 0,uV 0,iV 0,uV 0,.bool true] h42 fun _ h44=>g0<|dw (fls [0,1,2,3,4,5,6] (Tr.an 7 (Tr.fl 8 Tr.nil))) h44 fun _ h46=> ?_
 have h47:=h46.x.t10
 refine go [rd 9 0 2 0 2 h46,rd 9 5 0 9 1 h46]<|sB [iV e,uV f] h47 fun _ h49=>⟨kd [rd 0 5 1 9 1 h49],?_⟩
 refine g0<|up<|g0 ?_
 exact enR (.tuple #[.agg #[iV e,uV f],.bool true]) [rd 0 0 0 0 2 h49] (tk4 (sf3 (sf3 (sf3 (sf9 h49.b.h.h.t10)))))
theorem ut7_3_discover1(b c:Nat)(a:Int)(hf0:0≤a-1):HQ 407 [pV b,pV c] [Cl b [.bool true] 4,Cl c [iV a] 3] (.bool false) [Cl b [.bool true] 4,Cl c [iV a] 3]:=by
 refine hiS func407 ntmps407 fun g w0 R h0=>go [rd 1 0 0 0 1 h0,rd 1 2 1 0 1 h0,.v 1 3 (qeF a 0)] ?_
 exact enR _ [] h0
theorem ut7_4_discover(l m:Nat)(o:Int)(k e i:Nat)(t u:Int)(p c:Nat)(q:Int)(s:List Sl2)(j:Int)(x:inS 1 s 0= [(c,j)])(hf0:0≤o-1)(hf1:0≤ -(c:Int)+9223372036854775806)(hf2:0≤ -(c:Int)+(e:Int)-2):HQ 366 [pV l,pV m,iV o] [Mr k e i 4 t u,Cl l [pV k,pV p,iV e,iV i,iV c,iV q,.bool false] 158,Ar1 m e i s c j] (.tuple #[.agg #[iV c,uV j],.bool true,iV 0]) [Mr k e i 4 t u,Cl l [pV k,pV p,iV e,iV i,iV ((c:Int)+1),iV q,.bool false] 158,Ar1 m e i s c j]:=by
 refine hiS func366 ntmps366 fun g w0 R h0=>g0<|nP 3 [iV o] h0 (fun r10 _ h12=> ?_)
 refine nP 203 [iV 0,uV 0] h12 (fun _ _ h15=> ?_)
 have h16:=h15.d.d.d.t6
 refine go [rd 1 5 3 4 1 h15]<|cl3 call406 (ut7_2_lost l m c k e i t u p q s j x om) h16 fun _ h18=>g0<|nP 203 [iV 0,uV 0] h18 (fun _ _ h21=> ?_)
 refine nP 4 [.bool false] h21 (fun r22 _ h24=> ?_)
 refine sA [iV c,uV j] h24.a.t8 fun _ h27=>sA [.bool true] h27.a.t8 fun _ h30=> ?_
 have h31:=h30.f.a.t8
 refine g0<|cl2 call407 (ut7_3_discover1 r22 r10 o om) h31 fun _ h33=> ?_
 have h34:=h33.d.t8
 refine go [rd 5 3 4 4 1 h33,.v 5 4 (oIr ((c:Int)+1))]<|sP [(4,iV ((c:Int)+1))] [pV k,pV p,iV e,iV i,iV ((c:Int)+1),iV q,.bool false] h34 fun _ h36=>g0<|dw (fls [0,1,2,3,4,5,6,7,8] Tr.nil) h36 fun _ h38=>go [rd 6 3 0 4 1 h38,rd 6 7 0 2 1 h38,.v 6 8 (qeF ((c:Int)+1) (e:Int)),rd 9 0 1 0 1 h38]<|dw (fls [0,1] (Tr.an 2 (fls [3,4] Tr.nil))) h38 fun _ h40=> ?_
 have h41:=h40.f.t8
 refine go [rd 11 0 3 0 2 h40,rd 11 1 1 0 1 h40]<|sB [iV c,uV j] h41 fun _ h43=>⟨kd [rd 0 1 2 0 1 h43],?_⟩
 refine g0 ?_
 exact enR (.tuple #[.agg #[iV c,uV j],.bool true,iV 0]) [rd 0 0 0 0 2 h43] (tk4 (sf3 (sf3 (sf3 (sf7 h43.f.b.f.t8)))))
theorem cyst4f(b n m:Nat)(cy sn nx bg:Int)(ar:Nat)(A:List Sl2)(s:Nat)(gn rm:Int)(hf0:0≤(n:Int)-(s:Int)-2)(hf1:0≤rm-1):HQ 213 [pV b,pV ar,iV rm] [Cy b n m 4 cy sn (s:Int) nx bg,Ar1 ar n m A s gn] (.tuple #[.agg #[iV s,uV gn],.bool true,iV 0]) [Cy b n m 4 cy sn ((s:Int)+1) nx bg,Ar1 ar n m A s gn]:=by
 refine hiS func213 ntmps213 fun g w0 R h0=> ?_
 have h10:=h0.a.t3
 have hin11:=Ar1_in h10;have hin11s:=hin11.2.1;have hin11g:=hin11.2.2
 obtain⟨mk13,sw14,tl15,hp16,hp17,hp18,hp19,hp20,h21⟩:=Cy_open h10.a.t3
 have h22:sat g _ (Cl b [pV mk13,pV sw14,iV n,iV m,iV s,iV bg,.bool false] 158::_):=h21
 refine g0<|nP 203 [iV 0,uV 0] h22 (fun r23 _ h25=> ?_)
 have h26:=h25.d.t6
 refine g0<|cl1 call289 (asizes1 ar n m A s gn) h26 fun _ h28=> ?_
 have h29:=h28.b.t6
 refine g0<|cl1 call114 (ut6_2_valid b mk13 sw14 n m (s:Int) bg) h29 fun _ h31=>go [.v 2 5 (qeF (n:Int) 0),rd 4 4 0 2 1 h31,.v 4 5 (qnF (n:Int) (n:Int)),rd 4 11 0 3 1 h31,.v 4 12 (qnF (m:Int) (m:Int)),.v 4 16 (oF (rm<0))]<|dw (fls [1,2,3,4,7,8,9] (Tr.an 0 (Tr.an 5 (Tr.fl 6 (Tr.an 10 (fls [11,12,13] (Tr.an 14 (fls [15,16] Tr.nil)))))))) h31 fun _ h33=>go [rd 6 4 0 0 1 h33]<|cw0 call290 ut6_4_steps h33 fun _ h35=>⟨kd [rd 0 4 0 0 1 h35],?_⟩
 refine cw1 call291 (mphase mk13 n m cy 4 sn) h35.c.t6 fun _ h38=>⟨kd [],?_⟩
 refine g0<|cw3 call366 (ut7_4_discover b ar rm mk13 n m cy sn sw14 s bg A gn hin11.1 om om om) h38 fun _ h40=>⟨kd [],?_⟩
 have h41:=h40.c.t6
 refine g0<|sB [iV s,uV gn] h41 fun w42 h43=>⟨kd [],?_⟩
 refine g0 ?_
 obtain⟨tl_,htl_⟩: ∃z_:Int,z_=tl15:=⟨_,rfl⟩
 have h45:sat g w42 [Cl sw14 [iV n,iV nx,iV tl_] 263,Cl r23 [iV s,uV gn] 203,Mr mk13 n m 4 cy sn,Cl b [pV mk13,pV sw14,iV n,iV m,iV ((s:Int)+1),iV bg,.bool false] 158,Ar1 ar n m A s gn,R]:=by rw[htl_];exact h43.d.t6
 have h47:sat g _ (Cy b n m 4 cy sn ((s:Int)+1) nx bg::_):=Cy_close b n m 4 cy sn ((s:Int)+1) nx bg mk13 sw14 tl_ hp16 hp17 hp18 hp19 om h45.b.c.t6
 exact enR (.tuple #[.agg #[iV s,uV gn],.bool true,iV 0]) [rd 0 0 0 0 2 h43] (tk3 (sf2 (sf2 (sf3 h47.b.a.t4))))
theorem ut7_5_made(b a:Nat)(c d:Int)(hf0:0≤(a:Int)-1):HQ 179 [pV b] [Cl b [iV a,iV c,iV d] 263] (.bool true) [Cl b [iV a,iV c,iV d] 263]:=by
 refine hiS func179 ntmps179 fun g w0 R h0=>go [rd 1 6 0 0 1 h0,.v 1 7 (oT ((a:Int)>0))] ?_
 exact enR _ [] h0
theorem ut7_6_Begin(b a:Nat)(d c:Int)(hf0:0≤(a:Int)-1):HQ 409 [pV b] [Cl b [iV a,iV d,iV c] 263] (iV 0) [Cl b [iV a,iV 0,iV 0] 263]:=by
 refine hiS func409 ntmps409 fun g w0 R h0=>g0<|cl1 call179 (ut7_5_made b a d c om) h0 fun _ h11=>g0<|sP [(1,iV 0)] [iV a,iV 0,iV c] h11 fun _ h13=>g0<|sP [(2,iV 0)] [iV a,iV 0,iV 0] h13 fun _ h15=>g0 ?_
 exact enR _ [] h15
theorem ut7_7_discover(l m:Nat)(o:Int)(j c e:Nat)(p t:Int)(k b:Nat)(q:Int)(s:List Sl2)(i u y:Int)(z:inS 1 s 0= [(b,i)])(hf0:0≤o-1)(hf1:0≤ -(b:Int)+9223372036854775806)(hf2:0≤(b:Int)-(c:Int)+1)(hf3:0≤ -(b:Int)+(c:Int)-1):HQ 366 [pV l,pV m,iV o] [Mr j c e 4 p t,Cl l [pV j,pV k,iV c,iV e,iV b,iV q,.bool false] 158,Ar1 m c e s b i,Cl k [iV c,iV u,iV y] 263] (.tuple #[.agg #[iV b,uV i],.bool true,iV 0]) [Mr j c e 5 p 0,Cl l [pV j,pV k,iV c,iV e,iV ((b:Int)+1),iV q,.bool false] 158,Ar1 m c e s b i,Cl k [iV c,iV 0,iV 0] 263]:=by
 refine hiS func366 ntmps366 fun g w0 R h0=>g0<|nP 3 [iV o] h0 (fun r10 _ h12=> ?_)
 refine nP 203 [iV 0,uV 0] h12 (fun _ _ h15=> ?_)
 have h16:=h15.d.d.d.t7
 refine go [rd 1 5 3 4 1 h15]<|cl3 call406 (ut7_2_lost l m b j c e p t k q s i z om) h16 fun _ h18=>g0<|nP 203 [iV 0,uV 0] h18 (fun _ _ h21=> ?_)
 refine nP 4 [.bool false] h21 (fun r22 _ h24=> ?_)
 refine sA [iV b,uV i] h24.a.t9 fun _ h27=>sA [.bool true] h27.a.t9 fun _ h30=> ?_
 have h31:=h30.f.a.t9
 refine g0<|cl2 call407 (ut7_3_discover1 r22 r10 o om) h31 fun _ h33=> ?_
 have h34:=h33.d.t9
 refine go [rd 5 3 4 4 1 h33,.v 5 4 (oIr ((b:Int)+1))]<|sP [(4,iV ((b:Int)+1))] [pV j,pV k,iV c,iV e,iV ((b:Int)+1),iV q,.bool false] h34 fun _ h36=>g0<|dw (fls [0,1,2,3,4,5,6,7,8] Tr.nil) h36 fun _ h38=> ?_
 have h39:=h38.d.t9
 refine go [rd 6 3 0 4 1 h38,rd 6 7 0 2 1 h38,.v 6 8 (qeT ((b:Int)+1) (c:Int)),rd 7 3 0 0 1 h38]<|cl1 call408 (mgo4 j c e p t) h39 fun _ h41=> ?_
 have h42:=h41.x.t9
 refine go [rd 8 3 1 1 1 h41]<|cl1 call409 (ut7_6_Begin k c u y om) h42 fun _ h44=>go [rd 9 0 3 0 1 h44]<|dw (fls [0,1] (Tr.an 2 (fls [3,4] Tr.nil))) h44 fun _ h46=> ?_
 have h47:=h46.x.t9
 refine go [rd 11 0 5 0 2 h46,rd 11 1 3 0 1 h46]<|sB [iV b,uV i] h47 fun _ h49=>⟨kd [rd 0 1 4 0 1 h49],?_⟩
 refine g0 ?_
 exact enR (.tuple #[.agg #[iV b,uV i],.bool true,iV 0]) [rd 0 0 0 0 2 h49] (tk5 (sf4 (sf4 (sf4 (sf4 (sf8 h49.a.x.d.d.t9))))))
theorem cyst4fl(b n m:Nat)(cy sn nx bg:Int)(ar:Nat)(A:List Sl2)(s:Nat)(gn rm:Int)(hf0:0≤(s:Int)-(n:Int)+1)(hf1:0≤rm-1):HQ 213 [pV b,pV ar,iV rm] [Cy b n m 4 cy sn (s:Int) nx bg,Ar1 ar n m A s gn] (.tuple #[.agg #[iV s,uV gn],.bool true,iV 0]) [Cy b n m 5 cy 0 ((s:Int)+1) 0 bg,Ar1 ar n m A s gn]:=by
 refine hiS func213 ntmps213 fun g w0 R h0=> ?_
 have h10:=h0.a.t3
 have hin11:=Ar1_in h10;have hin11s:=hin11.2.1;have hin11g:=hin11.2.2
 obtain⟨mk13,sw14,tl15,hp16,hp17,hp18,hp19,hp20,h21⟩:=Cy_open h10.a.t3
 have h22:sat g _ (Cl b [pV mk13,pV sw14,iV n,iV m,iV s,iV bg,.bool false] 158::_):=h21
 refine g0<|nP 203 [iV 0,uV 0] h22 (fun r23 _ h25=> ?_)
 have h26:=h25.d.t6
 refine g0<|cl1 call289 (asizes1 ar n m A s gn) h26 fun _ h28=> ?_
 have h29:=h28.b.t6
 refine g0<|cl1 call114 (ut6_2_valid b mk13 sw14 n m (s:Int) bg) h29 fun _ h31=>go [.v 2 5 (qeF (n:Int) 0),rd 4 4 0 2 1 h31,.v 4 5 (qnF (n:Int) (n:Int)),rd 4 11 0 3 1 h31,.v 4 12 (qnF (m:Int) (m:Int)),.v 4 16 (oF (rm<0))]<|dw (fls [1,2,3,4,7,8,9] (Tr.an 0 (Tr.an 5 (Tr.fl 6 (Tr.an 10 (fls [11,12,13] (Tr.an 14 (fls [15,16] Tr.nil)))))))) h31 fun _ h33=>go [rd 6 4 0 0 1 h33]<|cw0 call290 ut6_4_steps h33 fun _ h35=>⟨kd [rd 0 4 0 0 1 h35],?_⟩
 refine cw1 call291 (mphase mk13 n m cy 4 sn) h35.c.t6 fun _ h38=>⟨kd [],?_⟩
 have h39:=h38.d.c.c.c.t6
 refine g0<|cw4 call366 (ut7_7_discover b ar rm mk13 n m cy sn sw14 s bg A gn nx tl15 hin11.1 om om om om) h39 fun _ h41=>⟨kd [],?_⟩
 have h42:=h41.d.t6
 refine g0<|sB [iV s,uV gn] h42 fun w43 h44=>⟨kd [],?_⟩
 refine g0 ?_
 obtain⟨tl_,htl_⟩: ∃z_:Int,z_=0:=⟨_,rfl⟩
 have h46:sat g w43 [Cl sw14 [iV n,iV 0,iV tl_] 263,Cl r23 [iV s,uV gn] 203,Mr mk13 n m 5 cy 0,Cl b [pV mk13,pV sw14,iV n,iV m,iV ((s:Int)+1),iV bg,.bool false] 158,Ar1 ar n m A s gn,R]:=by rw[htl_];exact h44.d.t6
 have h48:sat g _ (Cy b n m 5 cy 0 ((s:Int)+1) 0 bg::_):=Cy_close b n m 5 cy 0 ((s:Int)+1) 0 bg mk13 sw14 tl_ hp16 hp17 hp18 hp19 om h46.b.c.t6
 exact enR (.tuple #[.agg #[iV s,uV gn],.bool true,iV 0]) [rd 0 0 0 0 2 h44] (tk3 (sf2 (sf2 (sf3 h48.b.a.t4))))
theorem ut7_8_lost(t q:Nat)(l:Int)(o k m:Nat)(u y:Int)(z:Nat)(A:Int)(p:List Sl2)(d:Nat)(i:Int)(B:inS 1 p 0= [(d,i)])(hf0:0≤l)(hf1:0≤(k:Int)-l-1)(hn0:l-(d:Int)≠0):HQ 406 [pV t,pV q,iV l] [Mr o k m 4 u y,Cl t [pV o,pV z,iV k,iV m,iV l,iV A,.bool false] 158,Ar1 q k m p d i] (.tuple #[.agg #[iV 0,uV 0],.bool false]) [Mr o k m 4 u y,Cl t [pV o,pV z,iV k,iV m,iV l,iV A,.bool false] 158,Ar1 q k m p d i]:=by
 refine hiS func406 ntmps406 fun g w0 R h0=>g0<|nP 203 [iV 0,uV 0] h0 (fun _ _ h12=> ?_)
 have h13:=h12.a.t5
 refine go [rd 1 3 2 0 1 h12]<|cl1 call434 (mmark o k m u 4 y l om om) h13 fun _ h15=> ?_
 have h18:=h15.c.t5
 refine g0<|cP call266 (aheap1 q k m p d i) h18 ?_
 rintro v K _ (⟨h16,t17,rfl,rfl⟩) h20
 refine cP call435 (ut7_1_All h16 k p d i t17 B) ((ap3 h20).b.b.t7) ?_
 rintro v K _ (⟨p22,c23,rfl,rfl⟩) h26
 have h27:=ap3 h26
 refine go [.v 4 3 (oJ .i64 (1:Int) 1)]<|unS 39 ?_
 obtain⟨b28,hp29⟩:=sl_ptr0 (j:=2) h27 rfl om
 refine go [.s 6 0]<|lwP (pV b28) (liP (Ot 31) (Ot 33) p22 b28 0 0 1 c23 underlying392 2 0 hp29 0) ?_
 have h30:=h27.b.t8
 have hl31:=fl_n eRf_ok dc h30
 refine go [.r 6 1 b28 0 [iV d,uV i] ⟨gvc 0 h30 rfl hp29 eRf_ok 0 (iV d) (show ([(d,i)]:List (Nat×Int))[0]? =some (d,i) from rfl) 0,gvc 0 h30 rfl hp29 eRf_ok 1 (uV i) (show ([(d,i)]:List (Nat×Int))[0]? =some (d,i) from rfl) 1,trivial⟩]<|nP 203 [iV 0,uV 0] h30 (fun _ _ h34=> ?_)
 refine sA [iV d,uV i] h34 fun _ h36=>go [rd 7 1 0 0 1 h36,.v 7 3 (qnT (d:Int) l)]<|unN<|g0<|up ?_
 have h37:=h36.f.t9
 refine g0<|sA [iV 0,uV 0] h37 fun _ h39=>g0 ?_
 exact enR _ [rd 0 0 0 0 2 h39] (tk4 (sf3 (sf3 (sf3 (sf8 h39.e.x.x.t9)))))
theorem ut7_9_discover1(a b:Nat):HQ 407 [pV a,pV b] [Cl a [.bool false] 4] (.bool false) [Cl a [.bool false] 4]:=by
 refine hiS func407 ntmps407 fun g w0 R h0=>go [rd 1 0 0 0 1 h0] ?_
 exact enR _ [] h0
theorem ut7_10_discover(m o:Nat)(y:Int)(k i j:Nat)(u x:Int)(p:Nat)(f q:Int)(s:List Sl2)(l:Nat)(t:Int)(z:inS 1 s 0= [(l,t)])(hf0:0≤f)(hf1:0≤ -f+9223372036854775806)(hf2:0≤ -f+(i:Int)-2)(hn0:f-(l:Int)≠0):HQ 366 [pV m,pV o,iV y] [Mr k i j 4 u x,Cl m [pV k,pV p,iV i,iV j,iV f,iV q,.bool false] 158,Ar1 o i j s l t] (.tuple #[.agg #[iV 0,uV 0],.bool false,iV 0]) [Mr k i j 4 u x,Cl m [pV k,pV p,iV i,iV j,iV (f+1),iV q,.bool false] 158,Ar1 o i j s l t]:=by
 refine hiS func366 ntmps366 fun g w0 R h0=>g0<|nP 3 [iV y] h0 (fun r10 _ h12=> ?_)
 refine nP 203 [iV 0,uV 0] h12 (fun _ _ h15=> ?_)
 have h16:=h15.d.d.d.t6
 refine go [rd 1 5 3 4 1 h15]<|cl3 call406 (ut7_8_lost m o f k i j u x p q s l t z om om om) h16 fun _ h18=>g0<|nP 203 [iV 0,uV 0] h18 (fun _ _ h21=> ?_)
 refine nP 4 [.bool false] h21 (fun r22 _ h24=> ?_)
 refine sA [iV 0,uV 0] h24.a.t8 fun _ h27=>sA [.bool false] h27.a.t8 fun _ h30=>g0<|cl1 call407 (ut7_9_discover1 r22 r10) h30 fun _ h32=> ?_
 have h33:=h32.c.t8
 refine go [rd 5 3 3 4 1 h32,.v 5 4 (oIr (f+1))]<|sP [(4,iV (f+1))] [pV k,pV p,iV i,iV j,iV (f+1),iV q,.bool false] h33 fun _ h35=>g0<|dw (fls [0,1,2,3,4,5,6,7,8] Tr.nil) h35 fun _ h37=> ?_
 have h38:=h37.b.t8
 refine go [rd 6 3 0 4 1 h37,rd 6 7 0 2 1 h37,.v 6 8 (qeF (f+1) (i:Int)),rd 9 0 1 0 1 h37]<|sA [iV 0,uV 0] h38 fun _ h40=>g0<|dw (fls [0,1] (Tr.an 2 (fls [3,4] Tr.nil))) h40 fun _ h42=> ?_
 have h43:=h42.e.t8
 refine go [rd 11 0 0 0 2 h42,rd 11 1 2 0 1 h42]<|sB [iV 0,uV 0] h43 fun _ h45=>⟨kd [rd 0 1 3 0 1 h45],?_⟩
 refine g0 ?_
 exact enR _ [rd 0 0 0 0 2 h45] (tk4 (sf3 (sf3 (sf3 (sf7 h45.e.c.e.t8)))))
theorem cyst4(b n m:Nat)(cy sn at_ nx bg:Int)(ar:Nat)(A:List Sl2)(s:Nat)(gn rm:Int)(hf0:0≤at_)(hf1:0≤(n:Int)-at_-2)(hf2:0≤rm)(hn0:at_-(s:Int)≠0):HQ 213 [pV b,pV ar,iV rm] [Cy b n m 4 cy sn at_ nx bg,Ar1 ar n m A s gn] (.tuple #[.agg #[iV 0,uV 0],.bool false,iV 0]) [Cy b n m 4 cy sn (at_+1) nx bg,Ar1 ar n m A s gn]:=by
 refine hiS func213 ntmps213 fun g w0 R h0=> ?_
 have h10:=h0.a.t3
 have hin11:=Ar1_in h10;have hin11s:=hin11.2.1;have hin11g:=hin11.2.2
 obtain⟨mk13,sw14,tl15,hp16,hp17,hp18,hp19,hp20,h21⟩:=Cy_open h10.a.t3
 have h22:sat g _ (Cl b [pV mk13,pV sw14,iV n,iV m,iV at_,iV bg,.bool false] 158::_):=h21
 refine g0<|nP 203 [iV 0,uV 0] h22 (fun r23 _ h25=> ?_)
 have h26:=h25.d.t6
 refine g0<|cl1 call289 (asizes1 ar n m A s gn) h26 fun _ h28=> ?_
 have h29:=h28.b.t6
 refine g0<|cl1 call114 (ut6_2_valid b mk13 sw14 n m at_ bg) h29 fun _ h31=>go [.v 2 5 (qeF (n:Int) 0),rd 4 4 0 2 1 h31,.v 4 5 (qnF (n:Int) (n:Int)),rd 4 11 0 3 1 h31,.v 4 12 (qnF (m:Int) (m:Int)),.v 4 16 (oF (rm<0))]<|dw (fls [1,2,3,4,7,8,9] (Tr.an 0 (Tr.an 5 (Tr.fl 6 (Tr.an 10 (fls [11,12,13] (Tr.an 14 (fls [15,16] Tr.nil)))))))) h31 fun _ h33=>go [rd 6 4 0 0 1 h33]<|cw0 call290 ut6_4_steps h33 fun _ h35=>⟨kd [rd 0 4 0 0 1 h35],?_⟩
 refine cw1 call291 (mphase mk13 n m cy 4 sn) h35.c.t6 fun _ h38=>⟨kd [],?_⟩
 refine g0<|cw3 call366 (ut7_10_discover b ar rm mk13 n m cy sn sw14 at_ bg A s gn hin11.1 om om om om) h38 fun _ h40=>⟨kd [],?_⟩
 have h41:=h40.c.t6
 refine g0<|sB [iV 0,uV 0] h41 fun w42 h43=>⟨kd [],?_⟩
 refine g0 ?_
 obtain⟨tl_,htl_⟩: ∃z_:Int,z_=tl15:=⟨_,rfl⟩
 have h45:sat g w42 [Cl sw14 [iV n,iV nx,iV tl_] 263,Cl r23 [iV 0,uV 0] 203,Mr mk13 n m 4 cy sn,Cl b [pV mk13,pV sw14,iV n,iV m,iV (at_+1),iV bg,.bool false] 158,Ar1 ar n m A s gn,R]:=by rw[htl_];exact h43.d.t6
 have h47:sat g _ (Cy b n m 4 cy sn (at_+1) nx bg::_):=Cy_close b n m 4 cy sn (at_+1) nx bg mk13 sw14 tl_ hp16 hp17 hp18 hp19 om h45.b.c.t6
 exact enR _ [rd 0 0 0 0 2 h43] (tk3 (sf2 (sf2 (sf3 h47.b.a.t4))))
theorem ut7_11_discover(p q:Nat)(A:Int)(l i k:Nat)(s z:Int)(m:Nat)(j t:Int)(u:List Sl2)(o:Nat)(y B C:Int)(D:inS 1 u 0= [(o,y)])(hf0:0≤j-(o:Int))(hf1:0≤ -j+9223372036854775806)(hf2:0≤j-(i:Int)+1)(hf3:0≤ -j+(i:Int)-1)(hn0:j-(o:Int)≠0):HQ 366 [pV p,pV q,iV A] [Mr l i k 4 s z,Cl p [pV l,pV m,iV i,iV k,iV j,iV t,.bool false] 158,Ar1 q i k u o y,Cl m [iV i,iV B,iV C] 263] (.tuple #[.agg #[iV 0,uV 0],.bool false,iV 0]) [Mr l i k 5 s 0,Cl p [pV l,pV m,iV i,iV k,iV (j+1),iV t,.bool false] 158,Ar1 q i k u o y,Cl m [iV i,iV 0,iV 0] 263]:=by
 refine hiS func366 ntmps366 fun g w0 R h0=>g0<|nP 3 [iV A] h0 (fun r10 _ h12=> ?_)
 refine nP 203 [iV 0,uV 0] h12 (fun _ _ h15=> ?_)
 have h16:=h15.d.d.d.t7
 refine go [rd 1 5 3 4 1 h15]<|cl3 call406 (ut7_8_lost p q j l i k s z m t u o y D om om om) h16 fun _ h18=>g0<|nP 203 [iV 0,uV 0] h18 (fun _ _ h21=> ?_)
 refine nP 4 [.bool false] h21 (fun r22 _ h24=> ?_)
 refine sA [iV 0,uV 0] h24.a.t9 fun _ h27=>sA [.bool false] h27.a.t9 fun _ h30=>g0<|cl1 call407 (ut7_9_discover1 r22 r10) h30 fun _ h32=> ?_
 have h33:=h32.c.t9
 refine go [rd 5 3 3 4 1 h32,.v 5 4 (oIr (j+1))]<|sP [(4,iV (j+1))] [pV l,pV m,iV i,iV k,iV (j+1),iV t,.bool false] h33 fun _ h35=>g0<|dw (fls [0,1,2,3,4,5,6,7,8] Tr.nil) h35 fun _ h37=> ?_
 have h38:=h37.c.t9
 refine go [rd 6 3 0 4 1 h37,rd 6 7 0 2 1 h37,.v 6 8 (qeT (j+1) (i:Int)),rd 7 3 0 0 1 h37]<|cl1 call408 (mgo4 l i k s z) h38 fun _ h40=> ?_
 have h41:=h40.x.t9
 refine go [rd 8 3 1 1 1 h40]<|cl1 call409 (ut7_6_Begin m i B C om) h41 fun _ h43=> ?_
 have h44:=h43.d.t9
 refine go [rd 9 0 3 0 1 h43]<|sA [iV 0,uV 0] h44 fun _ h46=>g0<|dw (fls [0,1] (Tr.an 2 (fls [3,4] Tr.nil))) h46 fun _ h48=> ?_
 have h49:=h48.f.t9
 refine go [rd 11 0 0 0 2 h48,rd 11 1 4 0 1 h48]<|sB [iV 0,uV 0] h49 fun _ h51=>⟨kd [rd 0 1 5 0 1 h51],?_⟩
 refine g0 ?_
 exact enR _ [rd 0 0 0 0 2 h51] (tk5 (sf4 (sf4 (sf4 (sf4 (sf8 h51.b.f.e.e.t9))))))
theorem cyst4l(b n m:Nat)(cy sn at_ nx bg:Int)(ar:Nat)(A:List Sl2)(s:Nat)(gn rm:Int)(hf0:0≤at_)(hf1:0≤at_-(n:Int)+1)(hf2:0≤(n:Int)-at_-1)(hf3:0≤rm)(hn0:at_-(s:Int)≠0):HQ 213 [pV b,pV ar,iV rm] [Cy b n m 4 cy sn at_ nx bg,Ar1 ar n m A s gn] (.tuple #[.agg #[iV 0,uV 0],.bool false,iV 0]) [Cy b n m 5 cy 0 (at_+1) 0 bg,Ar1 ar n m A s gn]:=by
 refine hiS func213 ntmps213 fun g w0 R h0=> ?_
 have h10:=h0.a.t3
 have hin11:=Ar1_in h10;have hin11s:=hin11.2.1;have hin11g:=hin11.2.2
 obtain⟨mk13,sw14,tl15,hp16,hp17,hp18,hp19,hp20,h21⟩:=Cy_open h10.a.t3
 have h22:sat g _ (Cl b [pV mk13,pV sw14,iV n,iV m,iV at_,iV bg,.bool false] 158::_):=h21
 refine g0<|nP 203 [iV 0,uV 0] h22 (fun r23 _ h25=> ?_)
 have h26:=h25.d.t6
 refine g0<|cl1 call289 (asizes1 ar n m A s gn) h26 fun _ h28=> ?_
 have h29:=h28.b.t6
 refine g0<|cl1 call114 (ut6_2_valid b mk13 sw14 n m at_ bg) h29 fun _ h31=>go [.v 2 5 (qeF (n:Int) 0),rd 4 4 0 2 1 h31,.v 4 5 (qnF (n:Int) (n:Int)),rd 4 11 0 3 1 h31,.v 4 12 (qnF (m:Int) (m:Int)),.v 4 16 (oF (rm<0))]<|dw (fls [1,2,3,4,7,8,9] (Tr.an 0 (Tr.an 5 (Tr.fl 6 (Tr.an 10 (fls [11,12,13] (Tr.an 14 (fls [15,16] Tr.nil)))))))) h31 fun _ h33=>go [rd 6 4 0 0 1 h33]<|cw0 call290 ut6_4_steps h33 fun _ h35=>⟨kd [rd 0 4 0 0 1 h35],?_⟩
 refine cw1 call291 (mphase mk13 n m cy 4 sn) h35.c.t6 fun _ h38=>⟨kd [],?_⟩
 have h39:=h38.d.c.c.c.t6
 refine g0<|cw4 call366 (ut7_11_discover b ar rm mk13 n m cy sn sw14 at_ bg A s gn nx tl15 hin11.1 om om om om om) h39 fun _ h41=>⟨kd [],?_⟩
 have h42:=h41.d.t6
 refine g0<|sB [iV 0,uV 0] h42 fun w43 h44=>⟨kd [],?_⟩
 refine g0 ?_
 obtain⟨tl_,htl_⟩: ∃z_:Int,z_=0:=⟨_,rfl⟩
 have h46:sat g w43 [Cl sw14 [iV n,iV 0,iV tl_] 263,Cl r23 [iV 0,uV 0] 203,Mr mk13 n m 5 cy 0,Cl b [pV mk13,pV sw14,iV n,iV m,iV (at_+1),iV bg,.bool false] 158,Ar1 ar n m A s gn,R]:=by rw[htl_];exact h44.d.t6
 have h48:sat g _ (Cy b n m 5 cy 0 (at_+1) 0 bg::_):=Cy_close b n m 5 cy 0 (at_+1) 0 bg mk13 sw14 tl_ hp16 hp17 hp18 hp19 om h46.b.c.t6
 exact enR _ [rd 0 0 0 0 2 h44] (tk3 (sf2 (sf2 (sf3 h48.b.a.t4))))
end Go.Proofs.YtcgkoffnknpgjaaGreatDoor
