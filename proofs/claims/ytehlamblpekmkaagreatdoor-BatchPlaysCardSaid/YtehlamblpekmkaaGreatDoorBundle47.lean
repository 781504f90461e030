/- Walks, printed by my generator q9.py. -/
import Derived.Test.YtehlamblpekmkaaGreatDoorBundle45
import Derived.Test.YtehlamblpekmkaaGreatDoorHq
import Derived.Test.YtehlamblpekmkaaGreatDoorMod
import Derived.Test.YtehlamblpekmkaaGreatDoorBundle43
namespace Go.Proofs.YtehlamblpekmkaaGreatDoor
open Tryz
set_option maxHeartbeats 4000000
theorem begin_ht:HT prog 10 [] [] (fun v K=> ∃b wb:Nat,v= .tuple #[.agg #[pV b,pV wb],.bool true]∧K= [TW b 64 ts0,Wd wb (wnew 1)]):=by
 refine hiS func10 ntmps10 fun g w0 R h0=>g0<|nP 28 [.pointer none,.pointer none] h0 (fun _ _ h12=> ?_)
 refine g0<|cP call41 (tnew_w 64 1 om om) h12 ?_
 rintro v K _ (⟨b13,rfl,rfl⟩) h15
 have h16:=ap1 h15
 refine g0<|cP call42 (wnew_ht 1 om) h16 ?_
 rintro v K _ (⟨b17,rfl,rfl⟩) h19
 have h21:=(ap1 h19).b.t4
 refine g0<|sA [pV b13,pV b17] h21 fun _ h23=>g0 ?_
 exact en (.tuple #[.agg #[pV b13,pV b17],.bool true]) [rd 0 0 0 0 2 h23] ⟨_,_,rfl,⟨b13,b17,rfl,rfl⟩,(tk3 (sf2 (sf2 (sf3 h23.a.b.t4))))⟩
theorem what_0(n:Int)(hn:0≤n∧n≤65535)(h:n%3=0):HQ 67 [.int .u16 n] [] (.tuple #[iV 1,iV (whX n)]) []:=by
 refine hiS func67 ntmps67 fun g w0 R h0=>g0<|nP 222 [iV 0,iV 0,iV 0] h0 (fun r10 _ h12=> ?_)
 refine sA [iV 1,iV 2,iV 3] h12 fun _ h14=>go [.s 2 1]<|lwP (.int .u16 0) (law_rem (t:=78) (x:=Ot 6) (y:=(Operand.const (.int .u16 3))) kr n 3 kr kr om 0 ((rem_ex om).trans h) _)<|lwP (pV r10) (law_indexArrK (x:=Ot 4) (i:=Ot 7) (b:=r10) (off:=0) (z:=0) kr underlying222 1 kr 0 kr kr om om 0 om _) ?_
 have hb15:=quo_bd (a:=n) (b:=3) om om
 refine go [rd 2 3 0 0 1 h14,.s 2 5]<|lwP (.int .u16 (n/3)) (law_quo (t:=78) (x:=Ot 10) (y:=(Operand.const (.int .u16 3))) kr n 3 kr kr om (n/3) (quo_u16 om om om) _) ?_
 have hb16:=rem_bd (a:=(n/3)) (b:=200) om om
 refine go [.v 2 6 (oIr (n/3)),.s 2 7]<|lwP (iV ((n/3)%200)) (law_rem (t:=3) (x:=Ot 12) (y:=(Operand.const (iV 200))) kr (n/3) 200 kr kr om ((n/3)%200) (rem_ex om) _)<|go [.v 2 8 (oI (1+((n/3)%200)) ((n/3)%200+1))] ?_
 exact enR (.tuple #[iV 1,iV ((n/3)%200+1)]) [] h14.a.t1
theorem what_1(n:Int)(hn:0≤n∧n≤65535)(h:n%3=1):HQ 67 [.int .u16 n] [] (.tuple #[iV 2,iV (whX n)]) []:=by
 refine hiS func67 ntmps67 fun g w0 R h0=>g0<|nP 222 [iV 0,iV 0,iV 0] h0 (fun r10 _ h12=> ?_)
 refine sA [iV 1,iV 2,iV 3] h12 fun _ h14=>go [.s 2 1]<|lwP (.int .u16 1) (law_rem (t:=78) (x:=Ot 6) (y:=(Operand.const (.int .u16 3))) kr n 3 kr kr om 1 ((rem_ex om).trans h) _)<|lwP (.pointer (some ⟨r10,1,none⟩)) (law_indexArrK (x:=Ot 4) (i:=Ot 7) (b:=r10) (off:=0) (z:=1) kr underlying222 1 kr 1 kr kr om om 1 om _) ?_
 have hb15:=quo_bd (a:=n) (b:=3) om om
 refine go [rd 2 3 0 1 1 h14,.s 2 5]<|lwP (.int .u16 (n/3)) (law_quo (t:=78) (x:=Ot 10) (y:=(Operand.const (.int .u16 3))) kr n 3 kr kr om (n/3) (quo_u16 om om om) _) ?_
 have hb16:=rem_bd (a:=(n/3)) (b:=200) om om
 refine go [.v 2 6 (oIr (n/3)),.s 2 7]<|lwP (iV ((n/3)%200)) (law_rem (t:=3) (x:=Ot 12) (y:=(Operand.const (iV 200))) kr (n/3) 200 kr kr om ((n/3)%200) (rem_ex om) _)<|go [.v 2 8 (oI (1+((n/3)%200)) ((n/3)%200+1))] ?_
 exact enR (.tuple #[iV 2,iV ((n/3)%200+1)]) [] h14.a.t1
theorem what_2(n:Int)(hn:0≤n∧n≤65535)(h:n%3=2):HQ 67 [.int .u16 n] [] (.tuple #[iV 3,iV (whX n)]) []:=by
 refine hiS func67 ntmps67 fun g w0 R h0=>g0<|nP 222 [iV 0,iV 0,iV 0] h0 (fun r10 _ h12=> ?_)
 refine sA [iV 1,iV 2,iV 3] h12 fun _ h14=>go [.s 2 1]<|lwP (.int .u16 2) (law_rem (t:=78) (x:=Ot 6) (y:=(Operand.const (.int .u16 3))) kr n 3 kr kr om 2 ((rem_ex om).trans h) _)<|lwP (.pointer (some ⟨r10,2,none⟩)) (law_indexArrK (x:=Ot 4) (i:=Ot 7) (b:=r10) (off:=0) (z:=2) kr underlying222 1 kr 2 kr kr om om 2 om _) ?_
 have hb15:=quo_bd (a:=n) (b:=3) om om
 refine go [rd 2 3 0 2 1 h14,.s 2 5]<|lwP (.int .u16 (n/3)) (law_quo (t:=78) (x:=Ot 10) (y:=(Operand.const (.int .u16 3))) kr n 3 kr kr om (n/3) (quo_u16 om om om) _) ?_
 have hb16:=rem_bd (a:=(n/3)) (b:=200) om om
 refine go [.v 2 6 (oIr (n/3)),.s 2 7]<|lwP (iV ((n/3)%200)) (law_rem (t:=3) (x:=Ot 12) (y:=(Operand.const (iV 200))) kr (n/3) 200 kr kr om ((n/3)%200) (rem_ex om) _)<|go [.v 2 8 (oI (1+((n/3)%200)) ((n/3)%200+1))] ?_
 exact enR (.tuple #[iV 3,iV ((n/3)%200+1)]) [] h14.a.t1
theorem what_ht(n:Int)(hn:0≤n∧n≤65535):HQ 67 [Value.int IntKind.u16 n] [] (Value.tuple #[Value.int IntKind.i64 (whK n),Value.int IntKind.i64 (whX n)]) []:=by
 unfold whK
 have h3:n%3=0∨n%3=1∨n%3=2:=by omega
 rcases h3 with h|h|h
 · rw[h];exact what_0 n hn h
 · rw[h];exact what_1 n hn h
 · rw[h];exact what_2 n hn h
theorem open_ht(b wb:Nat)(S:Ts)(W:Wst)(n at_:Int)(hn:0≤n∧n≤65535)(ha:0≤at_∧at_≤1000):HQ 26 [.agg #[pV b,pV wb],.int .u16 n,iV at_] [TW b 64 S,Wd wb W] (.tuple #[]) [TW b 64 ((opnP (S,W) n at_).1),Wd wb ((opnP (S,W) n at_).2)]:=by
 refine hiS func26 ntmps26 fun g w0 R h0=> ?_
 have hk10:=tw_ok (j:=0) h0 rfl;have hk10a:=hk10.rl
 have hk11:=wd_ok (j:=1) h0 rfl;have hk11a:=hk11.nl;have hk11b:=hk11.nh
 refine g0<|nP 28 [pV b,pV wb] h0 (fun r12 _ h14=> ?_)
 refine g0<|cl0 call67 (what_ht n om) h14 fun _ h16=> ?_
 have hq17:=acqO_bd (wd_ok (j:=2) h16 rfl) (whK n) (whX n);have hq17a:=hq17.1;have hq17b:=hq17.2
 have h18:=h16.b.t4
 refine go [rd 2 1 0 1 1 h16]<|cl1 call68 (wacq_ht wb W (whK n) (whX n)) h18 fun _ h20=>g0<|nP 72 [iV 0,iV 0,uV 0] h20 (fun r21 _ h23=> ?_)
 refine sA [iV ((acqO W (whK n) (whX n)).1),iV ((acqO W (whK n) (whX n)).2.1),uV ((acqO W (whK n) (whX n)).2.2)] h23 fun w24 h25=>go [.s 3 1] ?_
 by_cases c26:(acqE W (whK n) (whX n))=0
 ·
  have hb27:=rem_bd (a:=at_) (b:=256) om om
  refine go [.v 3 1 (qeT _ _ c26),rd 4 1 2 0 1 h25,rd 4 2 0 0 3 h25,.s 4 4]<|lwP (iV (at_%256)) (law_rem (t:=3) (x:=Ot 28) (y:=(Operand.const (iV 256))) kr at_ 256 kr kr om (at_%256) (rem_ex om) _) ?_
  have hb28:=quo_bd (a:=at_) (b:=256) om om
  refine go [.s 4 6]<|lwP (iV (at_/256)) (law_quo (t:=3) (x:=Ot 30) (y:=(Operand.const (iV 256))) kr at_ 256 kr kr om (at_/256) (quo_i64 om om om) _) ?_
  have h29:=h25.c.t5
  refine go [.v 4 7 (oUr (at_/256)),.v 4 8 (oU (1+(at_/256)) ((at_/256)+1))]<|cl1 call69 (topen_w b 64 S ((acqO W (whK n) (whX n)).1) ((acqO W (whK n) (whX n)).2.1) ((acqO W (whK n) (whX n)).2.2) (at_%256) ((at_/256)+1) [116] om om (by simp only[List.length_cons,List.length_nil];omega)) h29 fun w30 h31=> ?_
  refine g0 ?_
  have h32:sat g _ (TW b 64 ((opnP (S,W) n at_).1)::_):=sat_imp h31 (fun _ hh_=>by rw[show (opnS S ((acqO W (whK n) (whX n)).1,(acqO W (whK n) (whX n)).2.1,(acqO W (whK n) (whX n)).2.2) [116] ((at_%256),(at_/256)+1))=((opnP (S,W) n at_).1) from (by unfold opnP;rw[if_pos om])] at hh_;exact hh_)
  have h34:sat g _ (Wd wb ((opnP (S,W) n at_).2)::_):=sat_imp h32.b.t5 (fun _ hh_=>by rw[show (acqS W (whK n) (whX n))=((opnP (S,W) n at_).2) from rfl] at hh_;exact hh_)
  exact enR _ [] (tk3 (sf2 (sf2 (sf4 h34.a.t5))))
 refine go [.v 3 1 (qeF _ _ c26)] ?_
 have h38:sat g _ (TW b 64 ((opnP (S,W) n at_).1)::_):=sat_imp h25.c.t5 (fun _ hh_=>by rw[show S=((opnP (S,W) n at_).1) from (by unfold opnP;rw[if_neg om])] at hh_;exact hh_)
 have h40:sat g _ (Wd wb ((opnP (S,W) n at_).2)::_):=sat_imp h38.b.t5 (fun _ hh_=>by rw[show (acqS W (whK n) (whX n))=((opnP (S,W) n at_).2) from rfl] at hh_;exact hh_)
 exact enR _ [] (tk3 (sf2 (sf2 (sf4 h40.a.t5))))
theorem shut_ht(b wb:Nat)(S:Ts)(W:Wst)(n:Int)(hn:0≤n∧n≤65535):HQ 28 [.agg #[pV b,pV wb],.int .u16 n] [TW b 64 S,Wd wb W] (.tuple #[]) [TW b 64 ((shuP (S,W) n).1),Wd wb ((shuP (S,W) n).2)]:=by
 refine hiS func28 ntmps28 fun g w0 R h0=> ?_
 have hk10:=tw_ok (j:=0) h0 rfl;have hk10a:=hk10.rl
 have hk11:=wd_ok (j:=1) h0 rfl;have hk11a:=hk11.nl;have hk11b:=hk11.nh
 refine g0<|nP 28 [pV b,pV wb] h0 (fun r12 _ h14=> ?_)
 have h15:=h14.a.t4
 refine go [rd 1 1 0 0 1 h14]<|cl1 call64 (tlen_w b 64 S) h15 fun w16 h17=> ?_
 by_cases c18:(S.R.length:Int)=0
 ·
  refine go [.v 1 3 (qeT _ _ c18)] ?_
  have h19:sat g _ (TW b 64 ((shuP (S,W) n).1)::_):=sat_imp h17 (fun _ hh_=>by rw[show S=((shuP (S,W) n).1) from (by unfold shuP shK;simp only[];rw[if_pos om])] at hh_;exact hh_)
  have h21:sat g _ (Wd wb ((shuP (S,W) n).2)::_):=sat_imp h19.b.t4 (fun _ hh_=>by rw[show W=((shuP (S,W) n).2) from rfl] at hh_;exact hh_)
  exact enR _ [] (tk3 (sf2 (sf2 (sf3 h21.a.t4))))
 refine go [.v 1 3 (qeF _ _ c18),.v 2 1 (oIr n),rd 2 3 1 0 1 h17]<|cl1 call64 (tlen_w b 64 S) h17 fun _ h25=> ?_
 have hb26:=rem_bd (a:=n) (b:=(S.R.length:Int)) om om
 refine lwP (iV (n%(S.R.length:Int))) (law_rem (t:=3) (x:=Ot 14) (y:=Ot 17) kr n (S.R.length:Int) kr kr om (n%(S.R.length:Int)) (rem_ex om) _) ?_
 have hg27n:nE S ((n%(S.R.length:Int))+1)=0:=if_pos ⟨by omega,by omega⟩;have hg27:resR (getR S ((n%(S.R.length:Int))+1))=0∧0≤(getR S ((n%(S.R.length:Int))+1)).out.2.2∧(getR S ((n%(S.R.length:Int))+1)).out.2.2≤4294967295∧(getR S ((n%(S.R.length:Int))+1)).tag.length≤96:=wf_get (tw_ok (j:=0) h25 rfl) hg27n;have hg27a:=hg27.2.1;have hg27b:=hg27.2.2.1;have hg27c:=hg27.2.2.2
 refine go [.v 2 6 (oI (1+(n%(S.R.length:Int))) ((n%(S.R.length:Int))+1)),rd 3 1 1 0 1 h25]<|cl1 call45 (by have h_:=tget_w b 64 S ((n%(S.R.length:Int))+1);rw[hg27n] at h_;exact h_) h25 fun _ h29=> ?_
 refine g0<|nP 82 [iV 0,iV 0,uV 0,iV 0,iV 0,iV 0,iV 0,.string (St [])] h29 (fun r30 _ h32=> ?_)
 refine sA [iV ((getR S ((n%(S.R.length:Int))+1)).out.1),iV ((getR S ((n%(S.R.length:Int))+1)).out.2.1),uV ((getR S ((n%(S.R.length:Int))+1)).out.2.2),iV ((getR S ((n%(S.R.length:Int))+1)).st),iV ((getR S ((n%(S.R.length:Int))+1)).why),iV ((getR S ((n%(S.R.length:Int))+1)).tr),iV ((getR S ((n%(S.R.length:Int))+1)).nx),.string (St ((getR S ((n%(S.R.length:Int))+1)).tag))] h32 fun _ h34=>g0<|dw (fls [0,1,2,3,4,5,6,7] (Tr.an2 8 (Tr.an2 9 (fls [10,11,12] (Tr.an 13 (Tr.an 14 (Tr.fl 15 Tr.nil)))) 13 (Tr.an 9 (fls [10,11,12] (Tr.an 14 (Tr.fl 15 Tr.nil))))) 13 (Tr.an 8 (Tr.an 9 (fls [10,11,12] (Tr.an 14 (Tr.fl 15 Tr.nil))))))) h34 fun _ h36=> ?_
 have hb37:=quo_bd (a:=n) (b:=7) om om
 refine go [rd 4 0 0 0 8 h36,.s 4 2]<|lw (.int .u16 (n/7)) (fun _=>law_quo (t:=78) (x:=Ot 29) (y:=(Operand.const (.int .u16 7))) kr n 7 kr kr om (n/7) (quo_u16 om om om) _) ?_
 have hb38:=rem_bd (a:=(n/7)) (b:=3) om om
 refine go [.v 4 3 (oIr (n/7)),.s 4 4]<|lw (iV ((n/7)%3)) (fun _=>law_rem (t:=3) (x:=Ot 31) (y:=(Operand.const (iV 3))) kr (n/7) 3 kr kr om ((n/7)%3) (rem_ex om) _)<|go [.v 4 5 (oI (1+((n/7)%3)) ((n/7)%3+1)),rd 4 7 2 1 1 h36] ?_
 refine br2 ?_ ?_
 ·
  refine cw1 call38 (wnow_ht wb W) h36.c.t5 fun _ h41=>⟨kd [rd 0 0 1 0 8 h41],?_⟩
  refine br2 ?_ ?_
  ·
   by_cases c42:(getR S ((n%(S.R.length:Int))+1)).st=1
   ·
    refine cw0 call52 (rclo_ok (getR S ((n%(S.R.length:Int))+1)) hg27.1 om om ((n/7)%3+1) W.now om om om) h41 fun _ h44=>⟨kd [],?_⟩
    refine g0<|nG (fun q_=>pV q_) 82 [iV 0,iV 0,uV 0,iV 0,iV 0,iV 0,iV 0,.string (St [])] h44 (fun r45 _ h47=>⟨kd [],?_⟩)
    refine sB [iV ((getR S ((n%(S.R.length:Int))+1)).out.1),iV ((getR S ((n%(S.R.length:Int))+1)).out.2.1),uV ((getR S ((n%(S.R.length:Int))+1)).out.2.2),iV 2,iV ((n/7)%3+1),iV ((getR S ((n%(S.R.length:Int))+1)).tr),iV W.now,.string (St ((getR S ((n%(S.R.length:Int))+1)).tag))] h47 fun _ h49=>⟨kd [],?_⟩
    have h52:=h49.c.t6
    refine go [rd 6 1 4 0 1 h49]<|cP call53 (texp_w b 64 S ((n%(S.R.length:Int))+1)) h52 ?_
    rintro v K _ (⟨p50,c51,rfl,rfl⟩) h54
    have h55:=ap2 h54
    refine go [rd 7 1 5 0 1 h55,rd 7 3 2 0 8 h55]<|cl1 call54 (tset_w b 64 (expS S ((n%(S.R.length:Int))+1)) ((n%(S.R.length:Int))+1) ((getR S ((n%(S.R.length:Int))+1)).out.1) ((getR S ((n%(S.R.length:Int))+1)).out.2.1) ((getR S ((n%(S.R.length:Int))+1)).out.2.2) 2 ((n/7)%3+1) ((getR S ((n%(S.R.length:Int))+1)).tr) W.now ((getR S ((n%(S.R.length:Int))+1)).tag) om om om) h55 fun w56 h57=>g0 ?_
    have h58:sat g _ (TW b 64 ((shuP (S,W) n).1)::_):=sat_imp h57 (fun _ hh_=>by rw[show (setS (expS S ((n%(S.R.length:Int))+1)) ((n%(S.R.length:Int))+1) ⟨((getR S ((n%(S.R.length:Int))+1)).out.1,(getR S ((n%(S.R.length:Int))+1)).out.2.1,(getR S ((n%(S.R.length:Int))+1)).out.2.2),2,(n/7)%3+1,(getR S ((n%(S.R.length:Int))+1)).tr,W.now,(getR S ((n%(S.R.length:Int))+1)).tag⟩)=((shuP (S,W) n).1) from (by unfold shuP shK;simp only[];rw[if_neg om,if_pos om];rfl)] at hh_;exact hh_)
    have h60:sat g _ (Wd wb ((shuP (S,W) n).2)::_):=sat_imp h58.c.t7 (fun _ hh_=>by rw[show W=((shuP (S,W) n).2) from rfl] at hh_;exact hh_)
    exact enR _ [] (tk3 (sf2 (sf2 (sf6 h60.a.t7))))
   refine cw0 call52 (rclo_no (getR S ((n%(S.R.length:Int))+1)) hg27.1 om om ((n/7)%3+1) W.now om om om) h41 fun _ h64=>⟨kd [],?_⟩
   refine g0<|nG (fun q_=>pV q_) 82 [iV 0,iV 0,uV 0,iV 0,iV 0,iV 0,iV 0,.string (St [])] h64 (fun r65 _ h67=>⟨kd [],?_⟩)
   refine sB [iV 0,iV 0,uV 0,iV 0,iV 0,iV 0,iV 0,.string (St [])] h67 fun w68 h69=>⟨kd [],?_⟩
   refine g0 ?_
   have h71:sat g _ (TW b 64 ((shuP (S,W) n).1)::_):=sat_imp h69.c.t6 (fun _ hh_=>by rw[show S=((shuP (S,W) n).1) from (by unfold shuP shK;simp only[];rw[if_neg om,if_neg om])] at hh_;exact hh_)
   have h73:sat g _ (Wd wb ((shuP (S,W) n).2)::_):=sat_imp h71.b.t6 (fun _ hh_=>by rw[show W=((shuP (S,W) n).2) from rfl] at hh_;exact hh_)
   exact enR _ [] (tk3 (sf2 (sf2 (sf5 h73.a.t6))))
  refine nG (fun q_=>pV q_) 82 [iV 0,iV 0,uV 0,iV 0,iV 0,iV 0,iV 0,.string (St [])] h41 (fun r76 _ h78=>⟨kd [rd 0 0 2 0 8 h78],?_⟩)
  by_cases c79:(getR S ((n%(S.R.length:Int))+1)).st=1
  ·
   refine cw0 call52 (rclo_ok (getR S ((n%(S.R.length:Int))+1)) hg27.1 om om ((n/7)%3+1) W.now om om om) h78 fun _ h81=>⟨kd [],?_⟩
   refine g0<|sB [iV ((getR S ((n%(S.R.length:Int))+1)).out.1),iV ((getR S ((n%(S.R.length:Int))+1)).out.2.1),uV ((getR S ((n%(S.R.length:Int))+1)).out.2.2),iV 2,iV ((n/7)%3+1),iV ((getR S ((n%(S.R.length:Int))+1)).tr),iV W.now,.string (St ((getR S ((n%(S.R.length:Int))+1)).tag))] h81 fun _ h83=>⟨kd [],?_⟩
   have h86:=h83.c.t6
   refine go [rd 6 1 4 0 1 h83]<|cP call53 (texp_w b 64 S ((n%(S.R.length:Int))+1)) h86 ?_
   rintro v K _ (⟨p84,c85,rfl,rfl⟩) h88
   have h89:=ap2 h88
   refine go [rd 7 1 5 0 1 h89,rd 7 3 2 0 8 h89]<|cl1 call54 (tset_w b 64 (expS S ((n%(S.R.length:Int))+1)) ((n%(S.R.length:Int))+1) ((getR S ((n%(S.R.length:Int))+1)).out.1) ((getR S ((n%(S.R.length:Int))+1)).out.2.1) ((getR S ((n%(S.R.length:Int))+1)).out.2.2) 2 ((n/7)%3+1) ((getR S ((n%(S.R.length:Int))+1)).tr) W.now ((getR S ((n%(S.R.length:Int))+1)).tag) om om om) h89 fun w90 h91=>g0 ?_
   have h92:sat g _ (TW b 64 ((shuP (S,W) n).1)::_):=sat_imp h91 (fun _ hh_=>by rw[show (setS (expS S ((n%(S.R.length:Int))+1)) ((n%(S.R.length:Int))+1) ⟨((getR S ((n%(S.R.length:Int))+1)).out.1,(getR S ((n%(S.R.length:Int))+1)).out.2.1,(getR S ((n%(S.R.length:Int))+1)).out.2.2),2,(n/7)%3+1,(getR S ((n%(S.R.length:Int))+1)).tr,W.now,(getR S ((n%(S.R.length:Int))+1)).tag⟩)=((shuP (S,W) n).1) from (by unfold shuP shK;simp only[];rw[if_neg om,if_pos om];rfl)] at hh_;exact hh_)
   have h94:sat g _ (Wd wb ((shuP (S,W) n).2)::_):=sat_imp h92.c.t7 (fun _ hh_=>by rw[show W=((shuP (S,W) n).2) from rfl] at hh_;exact hh_)
   exact enR _ [] (tk3 (sf2 (sf2 (sf6 h94.a.t7))))
  refine cw0 call52 (rclo_no (getR S ((n%(S.R.length:Int))+1)) hg27.1 om om ((n/7)%3+1) W.now om om om) h78 fun _ h98=>⟨kd [],?_⟩
  refine g0<|sB [iV 0,iV 0,uV 0,iV 0,iV 0,iV 0,iV 0,.string (St [])] h98 fun w99 h100=>⟨kd [],?_⟩
  refine g0 ?_
  have h102:sat g _ (TW b 64 ((shuP (S,W) n).1)::_):=sat_imp h100.c.t6 (fun _ hh_=>by rw[show S=((shuP (S,W) n).1) from (by unfold shuP shK;simp only[];rw[if_neg om,if_neg om])] at hh_;exact hh_)
  have h104:sat g _ (Wd wb ((shuP (S,W) n).2)::_):=sat_imp h102.b.t6 (fun _ hh_=>by rw[show W=((shuP (S,W) n).2) from rfl] at hh_;exact hh_)
  exact enR _ [] (tk3 (sf2 (sf2 (sf5 h104.a.t6))))
 refine nG (fun q_=>pV q_) 82 [iV 0,iV 0,uV 0,iV 0,iV 0,iV 0,iV 0,.string (St [])] h36 (fun r107 _ h109=>⟨kd [rd 0 7 3 1 1 h109,rd 0 0 1 0 8 h109],?_⟩)
 refine cw1 call38 (wnow_ht wb W) h109.d.t6 fun _ h112=>⟨kd [rd 0 0 2 0 8 h112],?_⟩
 by_cases c113:(getR S ((n%(S.R.length:Int))+1)).st=1
 ·
  refine cw0 call52 (rclo_ok (getR S ((n%(S.R.length:Int))+1)) hg27.1 om om ((n/7)%3+1) W.now om om om) h112 fun _ h115=>⟨kd [],?_⟩
  have h116:=h115.a.t6
  refine g0<|sB [iV ((getR S ((n%(S.R.length:Int))+1)).out.1),iV ((getR S ((n%(S.R.length:Int))+1)).out.2.1),uV ((getR S ((n%(S.R.length:Int))+1)).out.2.2),iV 2,iV ((n/7)%3+1),iV ((getR S ((n%(S.R.length:Int))+1)).tr),iV W.now,.string (St ((getR S ((n%(S.R.length:Int))+1)).tag))] h116 fun _ h118=>⟨kd [],?_⟩
  have h121:=h118.c.t6
  refine go [rd 6 1 4 0 1 h118]<|cP call53 (texp_w b 64 S ((n%(S.R.length:Int))+1)) h121 ?_
  rintro v K _ (⟨p119,c120,rfl,rfl⟩) h123
  have h124:=ap2 h123
  refine go [rd 7 1 5 0 1 h124,rd 7 3 2 0 8 h124]<|cl1 call54 (tset_w b 64 (expS S ((n%(S.R.length:Int))+1)) ((n%(S.R.length:Int))+1) ((getR S ((n%(S.R.length:Int))+1)).out.1) ((getR S ((n%(S.R.length:Int))+1)).out.2.1) ((getR S ((n%(S.R.length:Int))+1)).out.2.2) 2 ((n/7)%3+1) ((getR S ((n%(S.R.length:Int))+1)).tr) W.now ((getR S ((n%(S.R.length:Int))+1)).tag) om om om) h124 fun w125 h126=>g0 ?_
  have h127:sat g _ (TW b 64 ((shuP (S,W) n).1)::_):=sat_imp h126 (fun _ hh_=>by rw[show (setS (expS S ((n%(S.R.length:Int))+1)) ((n%(S.R.length:Int))+1) ⟨((getR S ((n%(S.R.length:Int))+1)).out.1,(getR S ((n%(S.R.length:Int))+1)).out.2.1,(getR S ((n%(S.R.length:Int))+1)).out.2.2),2,(n/7)%3+1,(getR S ((n%(S.R.length:Int))+1)).tr,W.now,(getR S ((n%(S.R.length:Int))+1)).tag⟩)=((shuP (S,W) n).1) from (by unfold shuP shK;simp only[];rw[if_neg om,if_pos om];rfl)] at hh_;exact hh_)
  have h129:sat g _ (Wd wb ((shuP (S,W) n).2)::_):=sat_imp h127.c.t7 (fun _ hh_=>by rw[show W=((shuP (S,W) n).2) from rfl] at hh_;exact hh_)
  exact enR _ [] (tk3 (sf2 (sf2 (sf6 h129.a.t7))))
 refine cw0 call52 (rclo_no (getR S ((n%(S.R.length:Int))+1)) hg27.1 om om ((n/7)%3+1) W.now om om om) h112 fun _ h133=>⟨kd [],?_⟩
 have h134:=h133.a.t6
 refine g0<|sB [iV 0,iV 0,uV 0,iV 0,iV 0,iV 0,iV 0,.string (St [])] h134 fun w135 h136=>⟨kd [],?_⟩
 refine g0 ?_
 have h138:sat g _ (TW b 64 ((shuP (S,W) n).1)::_):=sat_imp h136.c.t6 (fun _ hh_=>by rw[show S=((shuP (S,W) n).1) from (by unfold shuP shK;simp only[];rw[if_neg om,if_neg om])] at hh_;exact hh_)
 have h140:sat g _ (Wd wb ((shuP (S,W) n).2)::_):=sat_imp h138.b.t6 (fun _ hh_=>by rw[show W=((shuP (S,W) n).2) from rfl] at hh_;exact hh_)
 exact enR _ [] (tk3 (sf2 (sf2 (sf5 h140.a.t6))))
theorem answers_ht(n:Int)(hn:0≤n∧n≤65535):HQ 33 [.int .u16 n] [] (.string (St (ansW n))) []:=by
 refine hiS func33 ntmps33 fun g w0 R h0=>g0 ?_
 have h10:sat g _ (Sl 5 1 none 0 0 (fl eB [])::_):=sl_nil 5 1 h0
 refine lpS (fun mz_ a w=> ∃i:Nat,∃p:Option Addr,∃k:Nat,∃c:Nat,∃acc:List UInt8,∃f:Nat,∃nn:Int,∃lr:Fr,mz_=8-i∧(i+f=8)∧(k=i)∧(0≤nn∧nn≤65535)∧(ansW n=acc++ansF f (i:Int) nn)∧a=mk 25 (([(0,.int .u16 nn),(3,.slice p k c),(4,iV (i:Int))]:Fr)++lr)∧sat g w [Sl 5 1 p k c (fl eB acc),R]) (8-0) ⟨0,none,0,0,[],8,n,_,rfl,om,om,om,rfl,(lvF [.k 0 (.int .u16 n),.k 3 (.slice none 0 0),.o 4 (oJ .i64 0 (0:Int))]),h10⟩ ?_
 rintro m12 a13 w14 ⟨i,p,k,c,acc,f,nn,lr11,rfl,hif_,hk_,hnn_,hL_,rfl,h15⟩
 refine ga ?_
 have hb16:=rem_bd (a:=nn) (b:=7) om om
 refine go [.s 3 2]<|lwP (.int .u16 (nn%7)) (law_rem (t:=78) (x:=Ot 6) (y:=(Operand.const (.int .u16 7))) kr nn 7 kr kr om (nn%7) (rem_ex om) _)<|go [.v 3 3 (oIr (nn%7)),.s 3 4] ?_
 by_cases c17:(i:Int)<(nn%7);rotate_left
 ·
  refine go [.v 3 4 (oF _ c17)]<|up ?_
  have hl39:=fl_n eB_ok dc h15
  refine go [.s 7 1]<|lwP (.string (St acc)) (law_bts (x:=Ot 23) (p:=p) (m:=k) (c:=c) kr underlying161 underlying5 underlying9 kr 0 h15 rfl (gv_sl _ _ _) hl39)<|g0 ?_
  have he_:=ansF_end hL_ om
  exact en (.string (St acc)) [] ⟨_,_,rfl,⟨by rw[he_],rfl⟩,h15.a.t1⟩
 have hb18:=quo_bd (a:=nn) (b:=7) om om
 refine go [.v 3 4 (oT _ c17),.s 5 2]<|lwP (.int .u16 (nn/7)) (law_quo (t:=78) (x:=Ot 13) (y:=(Operand.const (.int .u16 7))) kr nn 7 kr kr om (nn/7) (quo_u16 om om om) _) ?_
 have hb19:=rem_bd (a:=(nn/7)) (b:=5) om om
 refine go [.v 5 3 (oIr (nn/7)),.s 5 4]<|lwP (iV ((nn/7)%5)) (law_rem (t:=3) (x:=Ot 15) (y:=(Operand.const (iV 5))) kr (nn/7) 5 kr kr om ((nn/7)%5) (rem_ex om) _) ?_
 obtain⟨kk20,hk21⟩: ∃z_:Nat,(nn/7)%5=(z_:Int):=⟨((nn/7)%5).toNat,by omega⟩
 obtain⟨x22,hx23⟩: ∃x,([111,108,108,108,102]:List UInt8)[kk20]? =some x:=⟨_,List.getElem?_eq_getElem (by simp only[List.length_cons,List.length_nil];omega)⟩
 have hb24:=u8_lt x22
 refine lwP (yV (x22.toNat:Int)) (law_idxStr (x:=(Operand.const (.string (St [111,108,108,108,102])))) (i:=Ot 16) (k:= .i64) (s:= [111,108,108,108,102]) (z:=((nn/7)%5)) (b:=x22) kr underlying9 kr kr kk20 om hx23 _)<|nG (fun q_=> .slice (some ⟨q_,0,none⟩) 1 1) 5 [yV (x22.toNat:Int)] h15 (fun r25 _ h27=>⟨kd [],?_⟩)
 have h28:=h27.a.t3
 refine actG ?_
 refine aA 19 1 (Ot 12) (Ot 18) (yV 0) p k c 1 1 (⟨r25,0,none⟩) 1 underlying161 h28 (fl eB [x22]) rfl (cell1 h28 rfl) (fl_one eB_ok _) (k+1) ?_
 intro p29 cap30 w31 h32
 have h33:sat g _ (Sl 5 1 p29 (k+1) cap30 (fl eB (acc++ [x22]))::_):=sJ h32
 obtain⟨hn34,hn35⟩:=sl_le h33
 refine nxA ?_
 have hb36:=quo_bd (a:=nn) (b:=2) om om
 refine go [.s 6 1]<|lwP (.int .u16 (nn/2)) (law_quo (t:=78) (x:=Ot 20) (y:=(Operand.const (.int .u16 2))) kr nn 2 kr kr om (nn/2) (quo_u16 om om om) _)<|go [.v 6 2 (⟨.int .u16 (IntKind.wrap .u16 ((nn/2)+3)),.int .u16 ((nn/2)+3),(ov_u16 om om om)⟩),.v 4 1 (oIr ((i:Int)+1))] ?_
 refine enL ?_
 have h38:=tk2 h33.b.a.t3
 change ∃n',n'<_∧_
 refine⟨(8-(i+1)),by omega,(i+1),p29,(k+1),cap30,(acc++ [x22]),(f-1),(nn/2)+3,_,rfl,om,om,om,(ansF_go (L0:=ansW n) (by rw[show f-1+1=f from by omega];exact hL_) om (by rw[show (nn/7%5).toNat=kk20 from by omega];exact hx23)),(lvF [.k 0 (.int .u16 ((nn/2)+3)),.k 3 (.slice p29 (k+1) cap30),.o 4 (oJ .i64 ((i:Int)+1) (((i+1):Nat):Int))]),h38⟩
section
structure MdC where
 pd:Option Addr
 cd:Nat
 pw:Option Addr
 cw:Nat
 pi:Option Addr
 ci:Nat
 pt:Option Addr
 ct:Nat
 pl:Option Addr
 cl:Nat
 m:Md
section
variable {g w : World} {L : List Assn} {cs : List MdC} {x : MdC}
end
end
set_option maxHeartbeats 4000000
def wk1:Pw:=(ts0,aswS (wnew 1) [111,111,111,108,108,108,108])
def wkO1:Pw:=opnP (wk1.1,wk1.2) 0 0
def wkO2:Pw:=opnP (wkO1.1,wkO1.2) 0 1
def wkO3:Pw:=opnP (wkO2.1,wkO2.2) 0 2
def wk3:Pw:=(wkO3.1,tckS wkO3.2 5)
def clo1(X:Pw)(i:Int):Pw:=(setS (expS X.1 i) i (cloR (getR X.1 i) 1 5),X.2)
def wkC1:Pw:=clo1 wk3 1
def wkC2:Pw:=clo1 wkC1 2
def wkC3:Pw:=clo1 wkC2 3
def wk5:Pw:=rnS (⟨2,10,25⟩:Cf) (wkC3.1,wkC3.2)
def wk6:Pw:=rnS (⟨2,10,25⟩:Cf) (wk5.1,wk5.2)
def runOkB(c:Cf)(now:Int)(X:Pw)(l:List Int):Bool:=(List.range l.length).all fun i=>
 decide (nE (stB c now X l i).1 (l.getD i 0)=0)&&decide ((getR (stB c now X l i).1 (l.getD i 0)).st=2)&&decide (relE (stB c now X l i).2 (getR (stB c now X l i).1 (l.getD i 0)).out (getR (stB c now X l i).1 (l.getD i 0)).why=0)
theorem runOkB_ok{c:Cf}{now:Int}{X:Pw}{l:List Int}(h:runOkB c now X l=true):RunOk c now X l:=by
 intro i n hn
 unfold runOkB at h
 rw[List.all_eq_true] at h
 have h1:=h i (List.mem_range.2 (List.getElem?_eq_some_iff.1 hn).1)
 rw[show l.getD i 0=n by rw[List.getD_eq_getElem?_getD,hn];rfl] at h1
 simp only[Bool.and_eq_true,decide_eq_true_eq] at h1
 exact⟨h1.1.1,h1.1.2,h1.2⟩
theorem wk_a:aswE (wnew 1) [111,111,111,108,108,108,108]=0:=by kernel_rfl
theorem wk_t:tckE wkO3.2 5=0:=by kernel_rfl
theorem wk_l3:wk3.1.R.length=3:=by kernel_rfl
theorem wk_l4:wkC1.1.R.length=3:=by kernel_rfl
theorem wk_l5:wkC2.1.R.length=3:=by kernel_rfl
theorem wk_s1:(getR wk3.1 1).st=1:=by kernel_rfl
theorem wk_s2:(getR wkC1.1 2).st=1:=by kernel_rfl
theorem wk_s3:(getR wkC2.1 3).st=1:=by kernel_rfl
theorem wk_r5:RunOk (⟨2,10,25⟩:Cf) wkC3.2.now (wkC3.1,wkC3.2) (dueB wkC3.1 wkC3.2.now 2):=runOkB_ok kr
theorem wk_r6:RunOk (⟨2,10,25⟩:Cf) wk5.2.now (wk5.1,wk5.2) (dueB wk5.1 wk5.2.now 2):=runOkB_ok kr
theorem wk_n5:(rnL (⟨2,10,25⟩:Cf) (wkC3.1,wkC3.2)).length=2:=by kernel_rfl
theorem wk_n6:(rnL (⟨2,10,25⟩:Cf) (wk5.1,wk5.2)).length=1:=by kernel_rfl
theorem wk_5:(rnL (⟨2,10,25⟩:Cf) (wkC3.1,wkC3.2))[1]? =some ⟨5,(1,1,1),1,2⟩:=by kernel_rfl
theorem wk_6: ∃x,(rnL (⟨2,10,25⟩:Cf) (wk5.1,wk5.2))[0]? =some x∧x.out.2.1=2:=⟨⟨5,(1,2,1),1,2⟩,by kernel_rfl,rfl⟩
theorem wk_w:((srtB wk6.1)[0]?.map (nxR wk6.1)).getD 0=15∧decide (0<(srtB wk6.1).length)=true∧(nums wk6.1.R 2).length=3:=⟨by kernel_rfl,by kernel_rfl,by kernel_rfl⟩
theorem q12e74_eql_t{n:Nat}{l:Fr}{o:Oper}{x y:Operand}(a0 a1 a2 a3 a4 a5 c0 c1 c2 c3 c4 c5:Int)(ho:o.op= .binOp .eql 74 x y 74)(hx:fe n l x= .agg #[.int .i64 a0,.int .i64 a1,.int .i64 a2,.int .u32 a3,.int .i64 a4,.int .i64 a5])(hy:fe n l y= .agg #[.int .i64 c0,.int .i64 c1,.int .i64 c2,.int .u32 c3,.int .i64 c4,.int .i64 c5])(h:a0=c0∧a1=c1∧a2=c2∧a3=c3∧a4=c4∧a5=c5)(w:World):(execOp (fe n l) o).run prog w= .ok (.value (.bool true)) w:=by
 obtain⟨rfl,rfl,rfl,rfl,rfl,rfl⟩:=h
 simp[execOp,ho,hx,hy,go_sem]
theorem works_gen(wo:World)(hg:Lett wo)(X1 O1 O2 O3 X3 C1 C2 C3 X5 X6:Pw)(e1:X1=(ts0,aswS (wnew 1) [111,111,111,108,108,108,108]))(eO1:O1=opnP (X1.1,X1.2) 0 0)(eO2:O2=opnP (O1.1,O1.2) 0 1)(eO3:O3=opnP (O2.1,O2.2) 0 2)(eX3:X3=(O3.1,tckS O3.2 5))(eC1:C1=(setS (expS X3.1 1) 1 (cloR (getR X3.1 1) 1 5),X3.2))(eC2:C2=(setS (expS C1.1 2) 2 (cloR (getR C1.1 2) 1 5),C1.2))(eC3:C3=(setS (expS C2.1 3) 3 (cloR (getR C2.1 3) 1 5),C2.2))(eX5:X5=rnS (⟨2,10,25⟩:Cf) (C3.1,C3.2))(eX6:X6=rnS (⟨2,10,25⟩:Cf) (X5.1,X5.2))(ht:tckE O3.2 5=0)(hl1:X3.1.R.length=3)(hl2:C1.1.R.length=3)(hl3:C2.1.R.length=3)(hs1:(getR X3.1 1).st=1)(hs2:(getR C1.1 2).st=1)(hs3:(getR C2.1 3).st=1)(hr5:RunOk (⟨2,10,25⟩:Cf) C3.2.now (C3.1,C3.2) (dueB C3.1 C3.2.now 2))(hr6:RunOk (⟨2,10,25⟩:Cf) X5.2.now (X5.1,X5.2) (dueB X5.1 X5.2.now 2))(hn5:(rnL (⟨2,10,25⟩:Cf) (C3.1,C3.2)).length=2)(hn6:(rnL (⟨2,10,25⟩:Cf) (X5.1,X5.2)).length=1)(h5:(rnL (⟨2,10,25⟩:Cf) (C3.1,C3.2))[1]? =some ⟨5,(1,1,1),1,2⟩)(h6: ∃x,(rnL (⟨2,10,25⟩:Cf) (X5.1,X5.2))[0]? =some x∧x.out.2.1=2)(hw:((srtB X6.1)[0]?.map (nxR X6.1)).getD 0=15∧decide (0<(srtB X6.1).length)=true∧(nums X6.1.R 2).length=3):HQ 16 [] [Old wo] (.bool true) [Old wo]:=by
 refine hiS func16 ntmps16 fun g w0 R h0=>g0<|cP call10 begin_ht h0 ?_
 rintro v K _ (⟨b10,b11,rfl,rfl⟩) h13
 have h14:=ap2 h13
 refine g0<|nP 28 [.pointer none,.pointer none] h14 (fun r15 _ h17=> ?_)
 refine sA [pV b10,pV b11] h17 fun _ h19=> ?_
 have h20:=h19.c.c.t5
 refine go [rd 2 4 0 1 1 h19]<|cl2 call32 (by have h_:=wansw_ht wo hg b11 (wnew 1) [111,111,111,108,108,108,108] dc;rw[wk_a] at h_;exact h_) h20 fun w21 h22=> ?_
 have h24:sat g _ (TW b10 64 X1.1::_):=sat_imp h22.c.t5 (fun _ hh_=>by rw[e1];exact hh_)
 have h26:sat g _ (Wd b11 X1.2::_):=sat_imp h24.a.t5 (fun _ hh_=>by rw[e1];exact hh_)
 refine g0<|unS 3 ?_
 have h27:=h26.a.t5
 refine go [rd 7 0 3 0 2 h26]<|cl2 call26 (open_ht b10 b11 X1.1 X1.2 0 0 om om) h27 fun w28 h29=> ?_
 have h30:sat g _ (TW b10 64 O1.1::_):=sat_imp h29 (fun _ hh_=>by rw[eO1];exact hh_)
 have h32:sat g _ (Wd b11 O1.2::_):=sat_imp h30.a.t5 (fun _ hh_=>by rw[eO1];exact hh_)
 refine g0<|unN ?_
 have h33:=h32.a.t5
 refine go [rd 7 0 3 0 2 h32]<|cl2 call26 (open_ht b10 b11 O1.1 O1.2 0 1 om om) h33 fun w34 h35=> ?_
 have h36:sat g _ (TW b10 64 O2.1::_):=sat_imp h35 (fun _ hh_=>by rw[eO2];exact hh_)
 have h38:sat g _ (Wd b11 O2.2::_):=sat_imp h36.a.t5 (fun _ hh_=>by rw[eO2];exact hh_)
 refine g0<|unN ?_
 have h39:=h38.a.t5
 refine go [rd 7 0 3 0 2 h38]<|cl2 call26 (open_ht b10 b11 O2.1 O2.2 0 2 om om) h39 fun w40 h41=> ?_
 have h42:sat g _ (TW b10 64 O3.1::_):=sat_imp h41 (fun _ hh_=>by rw[eO3];exact hh_)
 have h44:sat g _ (Wd b11 O3.2::_):=sat_imp h42.a.t5 (fun _ hh_=>by rw[eO3];exact hh_)
 refine g0<|unN<|g0<|up<|go [rd 8 1 3 1 1 h44]<|cl1 call30 (by have h_:=wtick_ht b11 O3.2 5;rw[ht] at h_;exact h_) h44 fun w45 h46=> ?_
 have h48:sat g _ (TW b10 64 X3.1::_):=sat_imp h46.a.t5 (fun _ hh_=>by rw[eX3];exact hh_)
 have h50:sat g _ (Wd b11 X3.2::_):=sat_imp h48.a.t5 (fun _ hh_=>by rw[eX3];exact hh_)
 refine g0<|unS 3 ?_
 have hg51n:nE X3.1 1=0:=if_pos ⟨by omega,by omega⟩;have hg51:resR (getR X3.1 1)=0∧0≤(getR X3.1 1).out.2.2∧(getR X3.1 1).out.2.2≤4294967295∧(getR X3.1 1).tag.length≤96:=wf_get (tw_ok (j:=1) h50 rfl) hg51n;have hg51a:=hg51.2.1;have hg51b:=hg51.2.2.1;have hg51c:=hg51.2.2.2
 have h52:=h50.a.t5
 refine go [rd 13 1 3 0 1 h50]<|cl1 call45 (by have h_:=tget_w b10 64 X3.1 1;rw[hg51n] at h_;exact h_) h52 fun _ h54=> ?_
 refine g0<|nP 82 [iV 0,iV 0,uV 0,iV 0,iV 0,iV 0,iV 0,.string (St [])] h54 (fun r55 _ h57=> ?_)
 refine sA [iV ((getR X3.1 1).out.1),iV ((getR X3.1 1).out.2.1),uV ((getR X3.1 1).out.2.2),iV ((getR X3.1 1).st),iV ((getR X3.1 1).why),iV ((getR X3.1 1).tr),iV ((getR X3.1 1).nx),.string (St ((getR X3.1 1).tag))] h57 fun _ h59=>go [rd 14 0 0 0 8 h59]<|cl0 call52 (rclo_ok (getR X3.1 1) hg51.1 om om 1 5 om om om) h59 fun _ h61=>g0<|nP 82 [iV 0,iV 0,uV 0,iV 0,iV 0,iV 0,iV 0,.string (St [])] h61 (fun r62 _ h64=> ?_)
 refine sA [iV ((getR X3.1 1).out.1),iV ((getR X3.1 1).out.2.1),uV ((getR X3.1 1).out.2.2),iV 2,iV 1,iV ((getR X3.1 1).tr),iV 5,.string (St ((getR X3.1 1).tag))] h64 fun _ h66=> ?_
 have h69:=h66.b.t7
 refine go [rd 17 1 5 0 1 h66]<|cP call53 (texp_w b10 64 X3.1 1) h69 ?_
 rintro v K _ (⟨p67,c68,rfl,rfl⟩) h71
 have h72:=ap2 h71
 refine go [rd 18 1 6 0 1 h72,rd 18 3 2 0 8 h72]<|cl1 call54 (tset_w b10 64 (expS X3.1 1) 1 ((getR X3.1 1).out.1) ((getR X3.1 1).out.2.1) ((getR X3.1 1).out.2.2) 2 1 ((getR X3.1 1).tr) 5 ((getR X3.1 1).tag) om om om) h72 fun w73 h74=> ?_
 have h75:sat g _ (TW b10 64 C1.1::_):=sat_imp h74 (fun _ hh_=>by rw[eC1];exact hh_)
 have h77:sat g _ (Wd b11 C1.2::_):=sat_imp h75.d.t8 (fun _ hh_=>by rw[eC1];exact hh_)
 refine g0<|unN ?_
 have hg78n:nE C1.1 2=0:=if_pos ⟨by omega,by omega⟩;have hg78:resR (getR C1.1 2)=0∧0≤(getR C1.1 2).out.2.2∧(getR C1.1 2).out.2.2≤4294967295∧(getR C1.1 2).tag.length≤96:=wf_get (tw_ok (j:=1) h77 rfl) hg78n;have hg78a:=hg78.2.1;have hg78b:=hg78.2.2.1;have hg78c:=hg78.2.2.2
 have h79:=h77.a.t8
 refine go [rd 13 1 6 0 1 h77]<|cl1 call45 (by have h_:=tget_w b10 64 C1.1 2;rw[hg78n] at h_;exact h_) h79 fun _ h81=> ?_
 refine g0<|nP 82 [iV 0,iV 0,uV 0,iV 0,iV 0,iV 0,iV 0,.string (St [])] h81 (fun r82 _ h84=> ?_)
 refine sA [iV ((getR C1.1 2).out.1),iV ((getR C1.1 2).out.2.1),uV ((getR C1.1 2).out.2.2),iV ((getR C1.1 2).st),iV ((getR C1.1 2).why),iV ((getR C1.1 2).tr),iV ((getR C1.1 2).nx),.string (St ((getR C1.1 2).tag))] h84 fun _ h86=>go [rd 14 0 0 0 8 h86]<|cl0 call52 (rclo_ok (getR C1.1 2) hg78.1 om om 1 5 om om om) h86 fun _ h88=>g0<|nP 82 [iV 0,iV 0,uV 0,iV 0,iV 0,iV 0,iV 0,.string (St [])] h88 (fun r89 _ h91=> ?_)
 refine sA [iV ((getR C1.1 2).out.1),iV ((getR C1.1 2).out.2.1),uV ((getR C1.1 2).out.2.2),iV 2,iV 1,iV ((getR C1.1 2).tr),iV 5,.string (St ((getR C1.1 2).tag))] h91 fun _ h93=> ?_
 have h96:=h93.b.t10
 refine go [rd 17 1 8 0 1 h93]<|cP call53 (texp_w b10 64 C1.1 2) h96 ?_
 rintro v K _ (⟨p94,c95,rfl,rfl⟩) h98
 have h99:=ap2 h98
 refine go [rd 18 1 9 0 1 h99,rd 18 3 2 0 8 h99]<|cl1 call54 (tset_w b10 64 (expS C1.1 2) 2 ((getR C1.1 2).out.1) ((getR C1.1 2).out.2.1) ((getR C1.1 2).out.2.2) 2 1 ((getR C1.1 2).tr) 5 ((getR C1.1 2).tag) om om om) h99 fun w100 h101=> ?_
 have h102:sat g _ (TW b10 64 C2.1::_):=sat_imp h101 (fun _ hh_=>by rw[eC2];exact hh_)
 have h104:sat g _ (Wd b11 C2.2::_):=sat_imp h102.d.t11 (fun _ hh_=>by rw[eC2];exact hh_)
 refine g0<|unN ?_
 have hg105n:nE C2.1 3=0:=if_pos ⟨by omega,by omega⟩;have hg105:resR (getR C2.1 3)=0∧0≤(getR C2.1 3).out.2.2∧(getR C2.1 3).out.2.2≤4294967295∧(getR C2.1 3).tag.length≤96:=wf_get (tw_ok (j:=1) h104 rfl) hg105n;have hg105a:=hg105.2.1;have hg105b:=hg105.2.2.1;have hg105c:=hg105.2.2.2
 have h106:=h104.a.t11
 refine go [rd 13 1 9 0 1 h104]<|cl1 call45 (by have h_:=tget_w b10 64 C2.1 3;rw[hg105n] at h_;exact h_) h106 fun _ h108=> ?_
 refine g0<|nP 82 [iV 0,iV 0,uV 0,iV 0,iV 0,iV 0,iV 0,.string (St [])] h108 (fun r109 _ h111=> ?_)
 refine sA [iV ((getR C2.1 3).out.1),iV ((getR C2.1 3).out.2.1),uV ((getR C2.1 3).out.2.2),iV ((getR C2.1 3).st),iV ((getR C2.1 3).why),iV ((getR C2.1 3).tr),iV ((getR C2.1 3).nx),.string (St ((getR C2.1 3).tag))] h111 fun _ h113=>go [rd 14 0 0 0 8 h113]<|cl0 call52 (rclo_ok (getR C2.1 3) hg105.1 om om 1 5 om om om) h113 fun _ h115=>g0<|nP 82 [iV 0,iV 0,uV 0,iV 0,iV 0,iV 0,iV 0,.string (St [])] h115 (fun r116 _ h118=> ?_)
 refine sA [iV ((getR C2.1 3).out.1),iV ((getR C2.1 3).out.2.1),uV ((getR C2.1 3).out.2.2),iV 2,iV 1,iV ((getR C2.1 3).tr),iV 5,.string (St ((getR C2.1 3).tag))] h118 fun _ h120=> ?_
 have h123:=h120.b.t13
 refine go [rd 17 1 11 0 1 h120]<|cP call53 (texp_w b10 64 C2.1 3) h123 ?_
 rintro v K _ (⟨p121,c122,rfl,rfl⟩) h125
 have h126:=ap2 h125
 refine go [rd 18 1 12 0 1 h126,rd 18 3 2 0 8 h126]<|cl1 call54 (tset_w b10 64 (expS C2.1 3) 3 ((getR C2.1 3).out.1) ((getR C2.1 3).out.2.1) ((getR C2.1 3).out.2.2) 2 1 ((getR C2.1 3).tr) 5 ((getR C2.1 3).tag) om om om) h126 fun w127 h128=> ?_
 have h129:sat g _ (TW b10 64 C3.1::_):=sat_imp h128 (fun _ hh_=>by rw[eC3];exact hh_)
 have h131:sat g _ (Wd b11 C3.2::_):=sat_imp h129.d.t14 (fun _ hh_=>by rw[eC3];exact hh_)
 refine g0<|unN<|g0<|up<|g0<|nP 24 [iV 0,iV 0,iV 0,iV 0,iV 0,iV 0,iV 0,iV 0,iV 0,uV 0] h131 (fun r132 _ h134=> ?_)
 refine sA [iV 0,iV 0,iV 0,iV 0,iV 0,iV 0,iV 2,iV 10,iV 25,uV 0] h134 fun _ h136=> ?_
 have h139:=h136.a.b.t15
 refine go [rd 20 1 13 0 1 h136,rd 20 3 13 1 1 h136,rd 20 4 0 0 10 h136]<|cP call12 (by have h_:=run_w b10 64 b11 C3.1 C3.2 0 0 0 0 0 0 2 10 25 0 (fun _=>hr5);rw[show cfgE (⟨2,10,25⟩:Cf)=0 from by kernel_rfl,hn5] at h_;exact h_) h139 ?_
 rintro v K w140 (⟨p137,c138,rfl,rfl⟩) h141
 have h143:sat g _ (TW b10 64 X5.1::_):=sat_imp (ap3 h141) (fun _ hh_=>by rw[eX5];exact hh_)
 have h145:sat g _ (Wd b11 X5.2::_):=sat_imp h143.a.t16 (fun _ hh_=>by rw[eX5];exact hh_)
 have h148:=h145.a.t16
 refine go [rd 21 1 14 0 1 h145,rd 21 3 14 1 1 h145,rd 21 4 3 0 10 h145]<|cP call12 (by have h_:=run_w b10 64 b11 X5.1 X5.2 0 0 0 0 0 0 2 10 25 0 (fun _=>hr6);rw[show cfgE (⟨2,10,25⟩:Cf)=0 from by kernel_rfl,hn6] at h_;exact h_) h148 ?_
 rintro v K w149 (⟨p146,c147,rfl,rfl⟩) h150
 have h152:sat g _ (TW b10 64 X6.1::_):=sat_imp (ap3 h150) (fun _ hh_=>by rw[eX6];exact hh_)
 have h154:sat g _ (Wd b11 X6.2::_):=sat_imp h152.a.t17 (fun _ hh_=>by rw[eX6];exact hh_)
 have h155:=h154.a.t17
 refine go [rd 22 1 15 0 1 h154]<|cl1 call13 (by have h_:=wake_w b10 64 X6.1;rw[hw.1,hw.2.1] at h_;exact h_) h155 fun _ h157=> ?_
 refine go [rd 23 1 15 0 1 h157]<|cl1 call14 (by have h_:=left_w b10 64 X6.1;rw[hw.2.2] at h_;exact h_) h157 fun _ h159=> ?_
 obtain⟨b160,hp161⟩:=sl_ptr0 (j:=3) h159 rfl om
 refine go [.v 24 16 (oJ .i64 (2:Int) 2),.v 24 21 (oJ .i64 (1:Int) 1),.s 26 1]<|lwP (.pointer (some ⟨b160,6,none⟩)) (liP (Ot 141) (Operand.const (iV 1)) p137 b160 0 1 2 c138 underlying41 6 1 hp161 6) ?_
 obtain⟨x162,hx163⟩: ∃x,(rnL (⟨2,10,25⟩:Cf) (C3.1,C3.2))[1]? =some x:=⟨_,List.getElem?_eq_getElem (by rw[hn5];omega)⟩
 have he164:=Option.some.inj (hx163.symm.trans h5);have he164a:x162.at_=5:=by rw[he164]
 have he164b:x162.out.1=1∧x162.out.2.1=1∧x162.out.2.2=1∧x162.why=1∧x162.ans=2:=by rw[he164];exact⟨rfl,rfl,rfl,rfl,rfl⟩
 refine go [.r 26 2 b160 6 [iV x162.at_,iV x162.out.1,iV x162.out.2.1,uV x162.out.2.2,iV x162.why,iV x162.ans] ⟨gvc 3 h159 rfl hp161 eAt_ok 0 (iV x162.at_) hx163 6,gvc 3 h159 rfl hp161 eAt_ok 1 (iV x162.out.1) hx163 7,gvc 3 h159 rfl hp161 eAt_ok 2 (iV x162.out.2.1) hx163 8,gvc 3 h159 rfl hp161 eAt_ok 3 (uV x162.out.2.2) hx163 9,gvc 3 h159 rfl hp161 eAt_ok 4 (iV x162.why) hx163 10,gvc 3 h159 rfl hp161 eAt_ok 5 (iV x162.ans) hx163 11,trivial⟩,.s 26 5]<|lwP (.bool true) (q12e74_eql_t (x:=Ot 143) (y:=Ot 145) x162.at_ x162.out.1 x162.out.2.1 x162.out.2.2 x162.why x162.ans 5 1 1 1 1 2 kr kr kr ⟨om,om,om,om,om,om⟩ _) ?_
 obtain⟨b165,hp166⟩:=sl_ptr0 (j:=2) h159 rfl om
 refine go [.s 26 8]<|lwP (pV b165) (liP (Ot 148) (Operand.const (iV 0)) p146 b165 0 0 1 c147 underlying41 6 0 hp166 0) ?_
 obtain⟨x167,hx168⟩: ∃x,(rnL (⟨2,10,25⟩:Cf) (X5.1,X5.2))[0]? =some x:=⟨_,List.getElem?_eq_getElem (by rw[hn6];omega)⟩
 have he169:x167.out.2.1=2:=by obtain⟨y_,h1_,h2_⟩:=h6;rw[Option.some.inj (hx168.symm.trans h1_)];exact h2_
 refine go [.r 26 11 b165 2 [iV x167.out.2.1] ⟨gvc 2 h159 rfl hp166 eAt_ok 2 (iV x167.out.2.1) hx168 2,trivial⟩,.v 26 12 (qeT x167.out.2.1 2)] ?_
 exact enR _ [] (tk2 (sf1 (sf16 h159.n.t17)))
theorem works_ht(wo:World)(hg:Lett wo):HQ 16 [] [Old wo] (Value.bool true) [Old wo]:=works_gen wo hg wk1 wkO1 wkO2 wkO3 wk3 wkC1 wkC2 wkC3 wk5 wk6 rfl rfl rfl rfl rfl rfl rfl rfl rfl rfl wk_t wk_l3 wk_l4 wk_l5 wk_s1 wk_s2 wk_s3 wk_r5 wk_r6 wk_n5 wk_n6 wk_5 wk_6 wk_w
section
def docL(S:Ts)(now:Int):Nat→List Int
 |0=> []
 |i+1=>if (getR S ((i:Int)+1)).st=2∧nxR S ((i:Int)+1)≤now then insB S ((i:Int)+1) (docL S now i) else docL S now i
section
variable {S : Ts} {now : Int}
theorem doc_go{i:Nat}(h:(getR S ((i:Int)+1)).st=2∧nxR S ((i:Int)+1)≤now):docL S now (i+1)=insB S ((i:Int)+1) (docL S now i):=if_pos h
theorem doc_no{i:Nat}(h: ¬((getR S ((i:Int)+1)).st=2∧nxR S ((i:Int)+1)≤now)):docL S now (i+1)=docL S now i:=if_neg h
theorem insB_len(n:Int)(l:List Int):(insB S n l).length=l.length+1:=by rw[(insB_perm S n l).length_eq];rfl
theorem doc_mem{n:Int}: ∀i,n∈docL S now i↔1≤n∧n≤(i:Int)∧(getR S n).st=2∧nxR S n≤now
 |0=>by
  constructor
  · intro h;cases h
  · intro h;omega
 |i+1=>by
  have ih:=doc_mem (n:=n) i
  by_cases h:(getR S ((i:Int)+1)).st=2∧nxR S ((i:Int)+1)≤now
  · rw[doc_go h,(insB_perm S _ _).mem_iff,List.mem_cons,ih]
    constructor
    · rintro(rfl |h1)
      · exact⟨by omega,by omega,h⟩
      · exact⟨h1.1,by omega,h1.2.2⟩
    · intro h1
      by_cases e:n=(i:Int)+1
      · exact .inl e
      · exact .inr ⟨h1.1,by omega,h1.2.2⟩
  · rw[doc_no h,ih]
    constructor
    · intro h1;exact⟨h1.1,by omega,h1.2.2⟩
    · intro h1
      by_cases e:n=(i:Int)+1
      · subst e;exact absurd h1.2.2 h
      · exact⟨h1.1,by omega,h1.2.2⟩
theorem doc_nd: ∀i,(docL S now i).Nodup
 |0=>List.nodup_nil
 |i+1=>by
  have ih:=doc_nd i
  unfold docL
  split
  · rw[(insB_perm S _ _).nodup_iff,List.nodup_cons]
    exact⟨fun h=>by have:=(doc_mem i).1 h;omega,ih⟩
  · exact ih
theorem doc_le: ∀i,(docL S now i).Pairwise fun a b=> ¬befB S b a
 |0=>List.Pairwise.nil
 |i+1=>by
  have ih:=doc_le i
  unfold docL
  split
  · exact insB_le ih
  · exact ih
theorem tw_filter{p:Int→Bool}(hp: ∀a b,¬befB S b a→p b=true→p a=true): ∀ {l:List Int},l.Pairwise (fun a b=> ¬befB S b a)→l.takeWhile p=l.filter p
 | [],_=>rfl
 |a::l,h=>by
  rw[List.pairwise_cons] at h
  rw[List.takeWhile_cons,List.filter_cons]
  split
  · rw[tw_filter hp h.2]
  · rename_i ha
    exact(List.filter_eq_nil_iff.2 fun b hb hpb=>ha (hp a b (h.1 b hb) hpb)).symm
theorem doc_all:docL S now S.R.length=(srtB S).takeWhile fun n=>decide (nxR S n≤now):=by
 rw[tw_filter (S:=S) (l:=srtB S) (fun a b h1 h2=>decide_eq_true (by have:=of_decide_eq_true h2;unfold befB at h1;omega)) (isrt_le S _)]
 refine List.Perm.eq_of_pairwise (le:=fun a b=> ¬befB S b a) (fun a b _ _ h3 h4=>by unfold befB at h3 h4;omega) (doc_le _) ((isrt_le S _).sublist List.filter_sublist) ?_
 refine(List.perm_ext_iff_of_nodup (doc_nd _) ((srt_nd S).sublist List.filter_sublist)).2 fun n=> ?_
 rw[doc_mem,List.mem_filter,mem_srt,decide_eq_true_eq]
 unfold nE
 constructor
 · rintro⟨h1,h2,h3,h4⟩
   exact⟨⟨if_pos ⟨h1,h2⟩,h3⟩,h4⟩
 · rintro⟨⟨h1,h3⟩,h4⟩
   split at h1
   · rename_i h2;exact⟨h2.1,h2.2,h3,h4⟩
   · omega
theorem doc_due(most:Int):(docL S now S.R.length).take most.toNat=dueB S now most:=by rw[doc_all];rfl
theorem insB_at{n:Int}: ∀ {X:List Int} {k:Nat},(∀(m:Nat) (x:Int),m<k→X[m]? =some x→befB S x n)→k≤X.length→(∀x,X[k]? =some x→ ¬befB S x n)→X.take k++ [n]++X.drop k=insB S n X
 | [],0,_,_,_=>rfl
 |x::X,0,_,_,h=>by
  unfold insB
  rw[if_neg (h x rfl)]
  rfl
 |x::X,k+1,h1,h2,h3=>by
  unfold insB
  rw[if_pos (h1 0 x om rfl),←insB_at (k:=k) (fun m y hm hy=>h1 (m+1) y om (by simpa using hy)) (by simpa using h2) (fun y hy=>h3 y (by simpa using hy))]
  rfl
theorem bef_step{X:List Int}{n x:Int}{k:Nat}(hb: ∀(m:Nat) (y:Int),m<k→X[m]? =some y→befB S y n)(hx:X[k]? =some x)(h:befB S x n): ∀(m:Nat) (y:Int),m<k+1→X[m]? =some y→befB S y n:=fun m y hm hy=>by
 rcases Nat.lt_succ_iff_lt_or_eq.1 hm with h1|h1
 · exact hb m y h1 hy
 · subst h1
   rw[hx] at hy
   obtain rfl:=Option.some.inj hy
   exact h
end
theorem wtN_top{base cap:Int}(h:1≤cap){j:Nat}(h1:wtN base cap j=cap): ∀m,wtN base cap (j+m)=cap
 |0=>h1
 |m+1=>by
  have:=wtN_top h h1 m
  show min (2*wtN base cap (j+m)) cap=cap
  omega
theorem dueL_le{S:Ts}{now most:Int}:(dueL S now most).length≤S.R.length:=by
 unfold dueL
 split
 · have h1:=due_le S now most
   rw[srtB_len] at h1
   exact Nat.le_trans h1 (nums_le _ _)
 · exact Nat.zero_le _
theorem rnL_le{c:Cf}{X:Pw}:(rnL c X).length≤64:=by
 unfold rnL
 split
 · rename_i h
   rw[ats_len]
   have h1: ¬(c.bt<1∨64<c.bt∨bkE c.ba c.cp≠0):=fun h2=>by unfold cfgE at h;rw[if_pos h2] at h;cases h
   have h2:1≤c.bt∧c.bt≤64:=⟨Decidable.byContradiction fun h=>h1 (.inl om),Decidable.byContradiction fun h=>h1 (.inr (.inl om))⟩
   have:=due_len X.1 X.2.now (most:=c.bt) om
   omega
 · exact Nat.zero_le _
def wkL(S:Ts):Nat→Option Int
 |0=>none
 |i+1=>if (getR S ((i:Int)+1)).st=2 then (match wkL S i with |none=>some (nxR S ((i:Int)+1))|some v=>some (min (nxR S ((i:Int)+1)) v)) else wkL S i
theorem wk_no{S:Ts}{i:Nat}(h:(getR S ((i:Int)+1)).st≠2):wkL S (i+1)=wkL S i:=if_neg h
theorem wk_new{S:Ts}{i:Nat}(h:(getR S ((i:Int)+1)).st=2)(hq:wkL S i=none):wkL S (i+1)=some (nxR S ((i:Int)+1)):=(if_pos h).trans (by rw[hq])
theorem wk_less{S:Ts}{i:Nat}{v:Int}(h:(getR S ((i:Int)+1)).st=2)(hq:wkL S i=some v)(h2:nxR S ((i:Int)+1)<v):wkL S (i+1)=some (nxR S ((i:Int)+1)):=(if_pos h).trans (by rw[hq];exact congrArg some om)
theorem wk_more{S:Ts}{i:Nat}{v:Int}(h:(getR S ((i:Int)+1)).st=2)(hq:wkL S i=some v)(h2:v≤nxR S ((i:Int)+1)):wkL S (i+1)=some v:=(if_pos h).trans (by rw[hq];exact congrArg some om)
theorem srt_min{S:Ts}{a n:Int}(h:(srtB S)[0]? =some a)(hn:n∈srtB S):nxR S a≤nxR S n:=by
 have h1:=isrt_le S (nums S.R 2)
 change (srtB S).Pairwise _ at h1
 cases e:srtB S with
 |nil=>rw[e] at h;cases h
 |cons x l=>
  rw[e] at h h1 hn
  rw[List.getElem?_cons_zero] at h
  obtain rfl:=Option.some.inj h
  rcases List.mem_cons.1 hn with rfl |hn
  · exact Int.le_refl _
  · have:=(List.pairwise_cons.1 h1).1 n hn
    unfold befB at this
    omega
theorem wk_mem{S:Ts}: ∀i,match wkL S i with
  |none=> ∀n:Int,1≤n→n≤(i:Int)→(getR S n).st≠2
  |some v=>(∃n:Int,1≤n∧n≤(i:Int)∧(getR S n).st=2∧nxR S n=v)∧ ∀n:Int,1≤n→n≤(i:Int)→(getR S n).st=2→v≤nxR S n
 |0=>fun n h1 h2=>by omega
 |i+1=>by
  have ih:=wk_mem (S:=S) i
  unfold wkL
  by_cases h:(getR S ((i:Int)+1)).st=2
  · rw[if_pos h]
    cases hv:wkL S i with
    |none=>
     rw[hv] at ih
     refine⟨⟨_,by omega,by omega,h,rfl⟩,fun n h1 h2 h3=> ?_⟩
     by_cases e:n=(i:Int)+1
     · rw[e];exact Int.le_refl _
     · exact absurd h3 (ih n h1 om)
    |some v=>
     rw[hv] at ih
     obtain⟨⟨m,g1,g2,g3,g4⟩,g5⟩:=ih
     refine⟨?_,fun n h1 h2 h3=> ?_⟩
     · by_cases e:nxR S ((i:Int)+1)≤v
       · exact⟨_,by omega,by omega,h,by omega⟩
       · exact⟨m,g1,by omega,g3,by omega⟩
     · by_cases e:n=(i:Int)+1
       · rw[e];omega
       · have:=g5 n h1 om h3;omega
  · rw[if_neg h]
    cases hv:wkL S i with
    |none=>
     rw[hv] at ih
     intro n h1 h2
     by_cases e:n=(i:Int)+1
     · rw[e];exact h
     · exact ih n h1 om
    |some v=>
     rw[hv] at ih
     obtain⟨⟨m,g1,g2,g3,g4⟩,g5⟩:=ih
     refine⟨⟨m,g1,by omega,g3,g4⟩,fun n h1 h2 h3=> ?_⟩
     by_cases e:n=(i:Int)+1
     · rw[e] at h3;exact absurd h3 h
     · exact g5 n h1 om h3
theorem wk_all(S:Ts):wkL S S.R.length=(srtB S)[0]?.map (nxR S):=by
 have h:=wk_mem (S:=S) S.R.length
 have hm: ∀n,n∈srtB S↔(1≤n∧n≤(S.R.length:Int))∧(getR S n).st=2:=fun n=>by
  rw[mem_srt]
  unfold nE
  split
  · rename_i h0
    exact⟨fun h1=>⟨h0,h1.2⟩,fun h1=>⟨rfl,h1.2⟩⟩
  · rename_i h0
    exact⟨fun h1=>absurd h1.1 dc,fun h1=>absurd h1.1 h0⟩
 cases hv:wkL S S.R.length with
 |none=>
  rw[hv] at h
  cases e:srtB S with
  |nil=>rfl
  |cons a l=>
   have:=(hm a).1 (by rw[e];exact List.mem_cons_self)
   exact absurd this.2 (h a this.1.1 this.1.2)
 |some v=>
  rw[hv] at h
  obtain⟨⟨m,g1,g2,g3,g4⟩,g5⟩:=h
  have hin:=(hm m).2 ⟨⟨g1,g2⟩,g3⟩
  cases e:(srtB S)[0]? with
  |none=>
   rw[List.getElem?_eq_none_iff] at e
   rw[List.eq_nil_of_length_eq_zero (by omega:(srtB S).length=0)] at hin
   cases hin
  |some a=>
   have h1:=srt_min e hin
   have h2:=(hm a).1 (List.mem_of_getElem? e)
   have h3:=g5 a h2.1.1 h2.1.2 h2.2
   show some v=some (nxR S a)
   rw[show nxR S a=v by omega]
theorem wk_end{S:Ts}{i:Nat}{lv:Int}{fb:Bool}(hi:i=S.R.length)(hq:wkL S i=if fb=true then some lv else none)(h0:fb=false→lv=0):((srtB S)[0]?.map (nxR S)).getD 0=lv∧decide (0<(srtB S).length)=fb:=by
 rw[hi,wk_all] at hq
 rw[hq]
 cases fb with
 |false=>
  refine⟨(h0 rfl).symm,decide_eq_false fun h=> ?_⟩
  rw[if_neg dc,Option.map_eq_none_iff,List.getElem?_eq_none_iff] at hq
  omega
 |true=>
  refine⟨rfl,decide_eq_true ?_⟩
  rw[if_pos rfl] at hq
  exact Decidable.byContradiction fun h=>by
   rw[List.getElem?_eq_none om] at hq
   cases hq
end
end Go.Proofs.YtehlamblpekmkaaGreatDoor
