/- Walks, printed by my generator d1.py. -/
import Derived.Test.YtehlamblpekmkaaGreatDoorBundle31
import Derived.Test.YtehlamblpekmkaaGreatDoorHq
import Derived.Test.YtehlamblpekmkaaGreatDoorBundle41
import Derived.Test.YtehlamblpekmkaaGreatDoorBundle47
import Derived.Test.YtehlamblpekmkaaGreatDoorDel
import Derived.Test.YtehlamblpekmkaaGreatDoorBundle40
import Derived.Test.YtehlamblpekmkaaGreatDoorBundle45
namespace Go.Proofs.YtehlamblpekmkaaGreatDoor
open Tryz
set_option maxHeartbeats 4000000
theorem dclo_ok(r:Rs)(hres:resR r=0)(hz0:0≤r.out.2.2)(hz1:r.out.2.2≤4294967295)(y t:Int)(hy:1≤y∧y≤3)(ht:0≤t∧t≤1099511627776)(h:r.st=1):HQ 74 [.agg #[iV r.out.1,iV r.out.2.1,uV r.out.2.2,iV r.st,iV r.why,iV r.tr,iV r.nx,.string (St r.tag)],iV y,iV t] [] (.tuple #[.agg #[iV r.out.1,iV r.out.2.1,uV r.out.2.2,iV 2,iV y,iV r.tr,iV t,.string (St r.tag)],iV 0]) []:=by
 refine hiS func74 ntmps74 fun g w0 R h0=>g0<|nP 149 [iV r.out.1,iV r.out.2.1,uV r.out.2.2,iV r.st,iV r.why,iV r.tr,iV r.nx,.string (St r.tag)] h0 (fun _ _ h12=> ?_)
 refine nP 149 [iV 0,iV 0,uV 0,iV 0,iV 0,iV 0,iV 0,.string (St [])] h12 (fun _ _ h15=> ?_)
 refine go [rd 1 0 1 0 8 h15]<|cl0 call155 (by have h_:=zres_ht r.out.1 r.out.2.1 r.out.2.2 r.st r.why r.tr r.nx r.tag om om (by have:=res_len hres;omega);rw[show resE r.out.1 r.out.2.1 r.out.2.2 r.st r.why r.tr r.nx r.tag=0 from hres] at h_;exact h_) h15 fun _ h17=> ?_
 refine g0<|cl0 call156 (zwhy_t y om) h17 fun _ h19=>g0<|cl0 call157 (ztime_t t om) h19 fun _ h21=> ?_
 have h22:=h21.a.t3
 refine go [rd 6 1 1 3 1 h21,.v 6 2 (qnF r.st 1)]<|sP [(3,iV 2)] [iV r.out.1,iV r.out.2.1,uV r.out.2.2,iV 2,iV r.why,iV r.tr,iV r.nx,.string (St r.tag)] h22 fun _ h24=>g0<|sP [(4,iV y)] [iV r.out.1,iV r.out.2.1,uV r.out.2.2,iV 2,iV y,iV r.tr,iV r.nx,.string (St r.tag)] h24 fun _ h26=>g0<|sP [(6,iV t)] [iV r.out.1,iV r.out.2.1,uV r.out.2.2,iV 2,iV y,iV r.tr,iV t,.string (St r.tag)] h26 fun _ h28=> ?_
 have h29:=h28.a.t3
 refine go [rd 11 0 0 0 8 h28]<|sA [iV r.out.1,iV r.out.2.1,uV r.out.2.2,iV 2,iV y,iV r.tr,iV t,.string (St r.tag)] h29 fun _ h31=>g0 ?_
 exact enR _ [rd 0 0 0 0 8 h31] h31.b.t1
theorem dclo_no(r:Rs)(hres:resR r=0)(hz0:0≤r.out.2.2)(hz1:r.out.2.2≤4294967295)(y t:Int)(hy:1≤y∧y≤3)(ht:0≤t∧t≤1099511627776)(h: ¬r.st=1):HQ 74 [.agg #[iV r.out.1,iV r.out.2.1,uV r.out.2.2,iV r.st,iV r.why,iV r.tr,iV r.nx,.string (St r.tag)],iV y,iV t] [] (.tuple #[.agg #[iV 0,iV 0,uV 0,iV 0,iV 0,iV 0,iV 0,.string (St [])],iV 8]) []:=by
 refine hiS func74 ntmps74 fun g w0 R h0=>g0<|nP 149 [iV r.out.1,iV r.out.2.1,uV r.out.2.2,iV r.st,iV r.why,iV r.tr,iV r.nx,.string (St r.tag)] h0 (fun _ _ h12=> ?_)
 refine nP 149 [iV 0,iV 0,uV 0,iV 0,iV 0,iV 0,iV 0,.string (St [])] h12 (fun _ _ h15=> ?_)
 refine go [rd 1 0 1 0 8 h15]<|cl0 call155 (by have h_:=zres_ht r.out.1 r.out.2.1 r.out.2.2 r.st r.why r.tr r.nx r.tag om om (by have:=res_len hres;omega);rw[show resE r.out.1 r.out.2.1 r.out.2.2 r.st r.why r.tr r.nx r.tag=0 from hres] at h_;exact h_) h15 fun _ h17=> ?_
 refine g0<|cl0 call156 (zwhy_t y om) h17 fun _ h19=>g0<|cl0 call157 (ztime_t t om) h19 fun _ h21=>go [rd 6 1 1 3 1 h21,.v 6 2 (qnT r.st 1)]<|sA [iV 0,iV 0,uV 0,iV 0,iV 0,iV 0,iV 0,.string (St [])] h21 fun _ h23=>g0 ?_
 exact enR _ [rd 0 0 0 0 8 h23] h23.b.t1
theorem ddue_y(r:Rs)(hres:resR r=0)(hz0:0≤r.out.2.2)(hz1:r.out.2.2≤4294967295)(t:Int)(ht:0≤t∧t≤1099511627776)(h:r.st=2∧r.nx≤t):HQ 171 [.agg #[iV r.out.1,iV r.out.2.1,uV r.out.2.2,iV r.st,iV r.why,iV r.tr,iV r.nx,.string (St r.tag)],iV t] [] (.tuple #[.bool true,iV 0]) []:=by
 refine hiS func171 ntmps171 fun g w0 R h0=>g0<|nP 149 [iV r.out.1,iV r.out.2.1,uV r.out.2.2,iV r.st,iV r.why,iV r.tr,iV r.nx,.string (St r.tag)] h0 (fun _ _ h12=> ?_)
 refine go [rd 1 0 0 0 8 h12]<|cl0 call155 (by have h_:=zres_ht r.out.1 r.out.2.1 r.out.2.2 r.st r.why r.tr r.nx r.tag om om (by have:=res_len hres;omega);rw[show resE r.out.1 r.out.2.1 r.out.2.2 r.st r.why r.tr r.nx r.tag=0 from hres] at h_;exact h_) h12 fun _ h14=> ?_
 refine g0<|cl0 call157 (ztime_t t om) h14 fun _ h16=>go [rd 6 1 0 3 1 h16,.v 6 2 (qeT r.st 2),rd 6 5 0 6 1 h16,.v 6 7 (oT (r.nx≤t))] ?_
 exact enR _ [] h16.a.t1
theorem ddue_n(r:Rs)(hres:resR r=0)(hz0:0≤r.out.2.2)(hz1:r.out.2.2≤4294967295)(t:Int)(ht:0≤t∧t≤1099511627776)(h: ¬(r.st=2∧r.nx≤t)):HQ 171 [.agg #[iV r.out.1,iV r.out.2.1,uV r.out.2.2,iV r.st,iV r.why,iV r.tr,iV r.nx,.string (St r.tag)],iV t] [] (.tuple #[.bool false,iV 0]) []:=by
 refine hiS func171 ntmps171 fun g w0 R h0=>g0<|nP 149 [iV r.out.1,iV r.out.2.1,uV r.out.2.2,iV r.st,iV r.why,iV r.tr,iV r.nx,.string (St r.tag)] h0 (fun _ _ h12=> ?_)
 refine go [rd 1 0 0 0 8 h12]<|cl0 call155 (by have h_:=zres_ht r.out.1 r.out.2.1 r.out.2.2 r.st r.why r.tr r.nx r.tag om om (by have:=res_len hres;omega);rw[show resE r.out.1 r.out.2.1 r.out.2.2 r.st r.why r.tr r.nx r.tag=0 from hres] at h_;exact h_) h12 fun _ h14=> ?_
 refine g0<|cl0 call157 (ztime_t t om) h14 fun _ h16=>go [rd 6 1 0 3 1 h16,.s 6 2] ?_
 by_cases c17:r.st=2
 ·
  refine go [.v 6 2 (qeT _ _ c17),rd 6 5 0 6 1 h16,.v 6 7 (oF (r.nx≤t))] ?_
  exact enR _ [] h16.a.t1
 refine go [.v 6 2 (qeF _ _ c17)] ?_
 exact enR _ [] h16.a.t1
theorem dtri_ht(r:Rs)(hres:resR r=0)(hz0:0≤r.out.2.2)(hz1:r.out.2.2≤4294967295)(x t wt:Int)(hx:1≤x∧x≤3)(ht:0≤t∧t≤1099511627776)(hw:1≤wt∧wt≤1048576)(hst:r.st=2):HQ 89 [.agg #[iV r.out.1,iV r.out.2.1,uV r.out.2.2,iV r.st,iV r.why,iV r.tr,iV r.nx,.string (St r.tag)],iV x,iV t,iV wt] [] (.tuple #[.agg #[iV ((triX r x t wt).out.1),iV ((triX r x t wt).out.2.1),uV ((triX r x t wt).out.2.2),iV ((triX r x t wt).st),iV ((triX r x t wt).why),iV ((triX r x t wt).tr),iV ((triX r x t wt).nx),.string (St ((triX r x t wt).tag))],iV (triE r x t wt)]) []:=by
 have hp_:=(res_ok hres).1;unfold posP at hp_;have hp0_:0≤r.tr∧r.tr≤10000:=by omega
 refine hiS func89 ntmps89 fun g w0 R h0=>g0<|nP 149 [iV r.out.1,iV r.out.2.1,uV r.out.2.2,iV r.st,iV r.why,iV r.tr,iV r.nx,.string (St r.tag)] h0 (fun _ _ h12=> ?_)
 refine nP 149 [iV 0,iV 0,uV 0,iV 0,iV 0,iV 0,iV 0,.string (St [])] h12 (fun _ _ h15=> ?_)
 refine go [rd 1 0 1 0 8 h15]<|cl0 call155 (by have h_:=zres_ht r.out.1 r.out.2.1 r.out.2.2 r.st r.why r.tr r.nx r.tag om om (by have:=res_len hres;omega);rw[show resE r.out.1 r.out.2.1 r.out.2.2 r.st r.why r.tr r.nx r.tag=0 from hres] at h_;exact h_) h15 fun _ h17=> ?_
 refine go [.v 4 1 (oF (x<1)),.v 4 4 (oF (x>3))]<|cl0 call157 (ztime_t t om) h17 fun _ h19=>go [.v 4 13 (oF (wt<1)),.v 4 17 (oF (wt>1048576)),rd 6 1 1 3 1 h19,.v 6 2 (qnF r.st 2),.s 8 1] ?_
 by_cases c20:x=2
 ·
  refine go [.v 8 1 (qeT _ _ c20),.v 9 2 (oIr (t+wt)),.s 9 3] ?_
  by_cases c21:t+wt>1099511627776
  ·
   refine go [.v 9 3 (oT _ c21)]<|sA [iV 0,iV 0,uV 0,iV 0,iV 0,iV 0,iV 0,.string (St [])] h19 fun _ h23=>g0 ?_
   exact en (.tuple #[.agg #[iV 0,iV 0,uV 0,iV 0,iV 0,iV 0,iV 0,.string (St [])],iV 17]) [rd 0 0 0 0 8 h23] ⟨_,_,rfl,⟨by have he_:triE r x t wt=17:=(if_pos ⟨by omega,by omega⟩);unfold triX;rw[if_neg om,he_];rfl,rfl⟩,h23.b.t1⟩
  refine go [.v 9 3 (oF _ c21),rd 9 6 1 5 1 h19,.s 9 7] ?_
  by_cases c25:r.tr≥10000
  ·
   refine go [.v 9 7 (oT _ c25)]<|sA [iV 0,iV 0,uV 0,iV 0,iV 0,iV 0,iV 0,.string (St [])] h19 fun _ h27=>g0 ?_
   exact en (.tuple #[.agg #[iV 0,iV 0,uV 0,iV 0,iV 0,iV 0,iV 0,.string (St [])],iV 17]) [rd 0 0 0 0 8 h27] ⟨_,_,rfl,⟨by have he_:triE r x t wt=17:=(if_pos ⟨by omega,by omega⟩);unfold triX;rw[if_neg om,he_];rfl,rfl⟩,h27.b.t1⟩
  have h29:=h19.a.t3
  refine go [.v 9 7 (oF _ c25),rd 11 1 1 5 1 h19,.v 11 2 (oIr (r.tr+1))]<|sP [(5,iV (r.tr+1))] [iV r.out.1,iV r.out.2.1,uV r.out.2.2,iV r.st,iV r.why,iV (r.tr+1),iV r.nx,.string (St r.tag)] h29 fun _ h31=>go [.v 12 2 (oIr (t+wt))]<|sP [(6,iV (t+wt))] [iV r.out.1,iV r.out.2.1,uV r.out.2.2,iV r.st,iV r.why,iV (r.tr+1),iV (t+wt),.string (St r.tag)] h31 fun _ h33=> ?_
  have h34:=h33.a.t3
  refine go [rd 13 0 0 0 8 h33]<|sA [iV r.out.1,iV r.out.2.1,uV r.out.2.2,iV r.st,iV r.why,iV (r.tr+1),iV (t+wt),.string (St r.tag)] h34 fun _ h36=>g0 ?_
  exact en (.tuple #[.agg #[iV r.out.1,iV r.out.2.1,uV r.out.2.2,iV r.st,iV r.why,iV (r.tr+1),iV (t+wt),.string (St r.tag)],iV 0]) [rd 0 0 0 0 8 h36] ⟨_,_,rfl,⟨by have he_:triE r x t wt=0:=(if_neg (fun h_=>by omega));unfold triX;rw[if_pos he_,he_];unfold triR;rw[if_neg om,if_neg om],rfl⟩,h36.b.t1⟩
 have h38:=h19.a.t3
 refine go [.v 8 1 (qeF _ _ c20)]<|sP [(3,iV 3)] [iV r.out.1,iV r.out.2.1,uV r.out.2.2,iV 3,iV r.why,iV r.tr,iV r.nx,.string (St r.tag)] h38 fun _ h40=>go [.s 15 1] ?_
 by_cases c41:x=3
 ·
  refine go [.v 15 1 (qeT _ _ c41)]<|sP [(3,iV 4)] [iV r.out.1,iV r.out.2.1,uV r.out.2.2,iV 4,iV r.why,iV r.tr,iV r.nx,.string (St r.tag)] h40 fun _ h43=>g0<|sP [(6,iV 0)] [iV r.out.1,iV r.out.2.1,uV r.out.2.2,iV 4,iV r.why,iV r.tr,iV 0,.string (St r.tag)] h43 fun _ h45=> ?_
  have h46:=h45.a.t3
  refine go [rd 18 0 0 0 8 h45]<|sA [iV r.out.1,iV r.out.2.1,uV r.out.2.2,iV 4,iV r.why,iV r.tr,iV 0,.string (St r.tag)] h46 fun _ h48=>g0 ?_
  exact en (.tuple #[.agg #[iV r.out.1,iV r.out.2.1,uV r.out.2.2,iV 4,iV r.why,iV r.tr,iV 0,.string (St r.tag)],iV 0]) [rd 0 0 0 0 8 h48] ⟨_,_,rfl,⟨by have he_:triE r x t wt=0:=(if_neg (fun h_=>by omega));unfold triX;rw[if_pos he_,he_];unfold triR;rw[if_neg om,if_pos om],rfl⟩,h48.b.t1⟩
 refine go [.v 15 1 (qeF _ _ c41)]<|sP [(6,iV 0)] [iV r.out.1,iV r.out.2.1,uV r.out.2.2,iV 3,iV r.why,iV r.tr,iV 0,.string (St r.tag)] h40 fun _ h51=> ?_
 have h52:=h51.a.t3
 refine go [rd 18 0 0 0 8 h51]<|sA [iV r.out.1,iV r.out.2.1,uV r.out.2.2,iV 3,iV r.why,iV r.tr,iV 0,.string (St r.tag)] h52 fun _ h54=>g0 ?_
 exact en (.tuple #[.agg #[iV r.out.1,iV r.out.2.1,uV r.out.2.2,iV 3,iV r.why,iV r.tr,iV 0,.string (St r.tag)],iV 0]) [rd 0 0 0 0 8 h54] ⟨_,_,rfl,⟨by have he_:triE r x t wt=0:=(if_neg (fun h_=>by omega));unfold triX;rw[if_pos he_,he_];unfold triR;rw[if_pos om],rfl⟩,h54.b.t1⟩
theorem dbk_ok(ba cp:Int)(hb:1≤ba∧ba≤cp∧cp≤1048576):HQ 170 [iV ba,iV cp] [] (iV 0) []:=by
 refine hiS func170 ntmps170 fun g w0 R h0=>go [.v 1 1 (oF (ba<1)),.v 1 4 (oF (ba>1048576)),.v 1 9 (oF (cp<ba)),.v 1 13 (oF (cp>1048576))] ?_
 exact enR _ [] h0
theorem dbk_no(ba cp:Int)(h:ba<1∨cp<ba∨1048576<cp):HQ 170 [iV ba,iV cp] [] (iV 2) []:=by
 refine hiS func170 ntmps170 fun g w0 R h0=>go [.s 1 1] ?_
 by_cases c10:ba<1
 ·
  refine go [.v 1 1 (oT _ c10)] ?_
  exact enR _ [] h0
 refine go [.v 1 1 (oF _ c10),.s 1 4] ?_
 by_cases c11:ba>1048576
 ·
  refine go [.v 1 4 (oT _ c11)] ?_
  exact enR _ [] h0
 refine go [.v 1 4 (oF _ c11),.s 1 9] ?_
 by_cases c12:cp<ba
 ·
  refine go [.v 1 9 (oT _ c12)] ?_
  exact enR _ [] h0
 refine go [.v 1 9 (oF _ c12),.v 1 13 (oT (cp>1048576))] ?_
 exact enR _ [] h0
theorem dbk_ht(ba cp:Int):HQ 170 [Value.int IntKind.i64 ba,Value.int IntKind.i64 cp] [] (Value.int .i64 (bkE ba cp)) []:=by
 unfold bkE
 split
 · rename_i h
   exact dbk_no ba cp h
 · rename_i h
   exact dbk_ok ba cp om
theorem dbck_ok(tr ba cp:Int)(ht:1≤tr∧tr≤64)(hb:1≤ba∧ba≤cp∧cp≤1048576):HQ 180 [iV tr,iV ba,iV cp] [] (iV 0) []:=by
 refine hiS func180 ntmps180 fun g w0 R h0=>g0<|cl0 call170 (dbk_ok ba cp om) h0 fun _ h11=>go [.v 1 6 (oF (tr<1)),.v 1 10 (oF (tr>64))] ?_
 exact enR _ [] h11
theorem dwait_ht(tr ba cp:Int)(ht:1≤tr∧tr≤64)(hb:1≤ba∧ba≤cp∧cp≤1048576):HQ 88 [iV tr,iV ba,iV cp] [] (.tuple #[iV (wtB tr ba cp),iV 0]) []:=by
 refine hiS func88 ntmps88 fun g w0 R h0=>g0<|cl0 call180 (dbck_ok tr ba cp om om) h0 fun _ h11=>g0 ?_
 refine lpS (fun mz_ a w=> ∃j:Nat,∃wv:Int,∃lr:Fr,mz_=64-j∧((j:Int)+1≤tr)∧(min wv cp=wtN ba cp j)∧(1≤wv∧wv≤2*cp)∧a=mk 34 (([(0,iV tr),(2,iV cp),(9,iV wv),(10,iV ((j:Int)+1))]:Fr)++lr)∧sat g w [R]) (64-0) ⟨0,ba,_,rfl,om,(by show min ba cp=ba;omega),om,(lvF [.k 0 (iV tr),.k 2 (iV cp),.k 9 (iV ba),.o 10 (oJ .i64 1 ((0:Int)+1))]),h11⟩ ?_
 rintro m13 a14 w15 ⟨j,wv,lr12,rfl,hj,hwv_,hwb_,rfl,h16⟩
 refine ga<|go [.s 6 2] ?_
 by_cases c17:(j:Int)+1<tr
 ·
  refine go [.v 6 2 (oT _ c17),.s 6 6] ?_
  by_cases c18:wv<cp
  ·
   refine go [.v 6 6 (oT _ c18),.v 8 1 (oIr (2*wv)),.v 7 1 (oI (((j:Int)+1)+1) ((j:Int)+2))] ?_
   exact enN (64-(j+1)) ⟨(j+1),2*wv,_,rfl,om,(by unfold wtN;rw[←hwv_];omega),om,(lvF [.k 0 (iV tr),.k 2 (iV cp),.k 9 (iV (2*wv)),.o 10 (oJ .i64 ((j:Int)+2) ((((j+1):Nat):Int)+1))]),h16⟩
  refine go [.v 6 6 (oF _ c18)]<|up<|go [.s 9 2] ?_
  by_cases c19:cp<wv
  ·
   refine go [.v 9 2 (⟨iV (if cp<wv then cp else wv),iV cp,(ov_int (if_pos om))⟩)] ?_
   have he_:wtB tr ba cp=min wv cp:=by unfold wtB;rw[hwv_];first|(rw[show (tr-1).toNat=j from by omega])|(have h_:=wtN_top (base:=ba) (cap:=cp) (j:=j) om om ((tr-1).toNat-j);rw[show j+((tr-1).toNat-j)=(tr-1).toNat from by omega] at h_;omega)
   exact en (.tuple #[iV cp,iV 0]) [] ⟨_,_,rfl,⟨by rw[show wtB tr ba cp=cp from by omega],rfl⟩,h16⟩
  refine go [.v 9 2 (⟨iV (if cp<wv then cp else wv),iV wv,(ov_int (if_neg om))⟩)] ?_
  have he_:wtB tr ba cp=min wv cp:=by unfold wtB;rw[hwv_];first|(rw[show (tr-1).toNat=j from by omega])|(have h_:=wtN_top (base:=ba) (cap:=cp) (j:=j) om om ((tr-1).toNat-j);rw[show j+((tr-1).toNat-j)=(tr-1).toNat from by omega] at h_;omega)
  exact en (.tuple #[iV wv,iV 0]) [] ⟨_,_,rfl,⟨by rw[show wtB tr ba cp=wv from by omega],rfl⟩,h16⟩
 refine go [.v 6 2 (oF _ c17)]<|up<|go [.s 9 2] ?_
 by_cases c20:cp<wv
 ·
  refine go [.v 9 2 (⟨iV (if cp<wv then cp else wv),iV cp,(ov_int (if_pos om))⟩)] ?_
  have he_:wtB tr ba cp=min wv cp:=by unfold wtB;rw[hwv_];first|(rw[show (tr-1).toNat=j from by omega])|(have h_:=wtN_top (base:=ba) (cap:=cp) (j:=j) om om ((tr-1).toNat-j);rw[show j+((tr-1).toNat-j)=(tr-1).toNat from by omega] at h_;omega)
  exact en (.tuple #[iV cp,iV 0]) [] ⟨_,_,rfl,⟨by rw[show wtB tr ba cp=cp from by omega],rfl⟩,h16⟩
 refine go [.v 9 2 (⟨iV (if cp<wv then cp else wv),iV wv,(ov_int (if_neg om))⟩)] ?_
 have he_:wtB tr ba cp=min wv cp:=by unfold wtB;rw[hwv_];first|(rw[show (tr-1).toNat=j from by omega])|(have h_:=wtN_top (base:=ba) (cap:=cp) (j:=j) om om ((tr-1).toNat-j);rw[show j+((tr-1).toNat-j)=(tr-1).toNat from by omega] at h_;omega)
 exact en (.tuple #[iV wv,iV 0]) [] ⟨_,_,rfl,⟨by rw[show wtB tr ba cp=wv from by omega],rfl⟩,h16⟩
theorem dbef_ht(b n:Nat)(S:Ts)(x y:Int):HQ 172 [pV b,iV x,iV y] [Zr b n S.A (allE S.E) S.R] (.bool (decide (befB S x y))) [Zr b n S.A (allE S.E) S.R]:=by
 refine hiS func172 ntmps172 fun g w0 R h0=>g0<|cl1 call73 (zget_ht b n S x) h0 fun _ h11=>g0<|nP 149 [iV 0,iV 0,uV 0,iV 0,iV 0,iV 0,iV 0,.string (St [])] h11 (fun _ _ h14=> ?_)
 refine sA [iV ((getR S x).out.1),iV ((getR S x).out.2.1),uV ((getR S x).out.2.2),iV ((getR S x).st),iV ((getR S x).why),iV ((getR S x).tr),iV ((getR S x).nx),.string (St ((getR S x).tag))] h14 fun _ h16=> ?_
 have h17:=h16.a.t3
 refine g0<|cl1 call73 (zget_ht b n S y) h17 fun _ h19=>g0<|nP 149 [iV 0,iV 0,uV 0,iV 0,iV 0,iV 0,iV 0,.string (St [])] h19 (fun _ _ h22=> ?_)
 refine sA [iV ((getR S y).out.1),iV ((getR S y).out.2.1),uV ((getR S y).out.2.2),iV ((getR S y).st),iV ((getR S y).why),iV ((getR S y).tr),iV ((getR S y).nx),.string (St ((getR S y).tag))] h22 fun _ h24=>go [rd 3 1 2 6 1 h24,rd 3 3 0 6 1 h24,.s 3 4] ?_
 by_cases c25:(getR S x).nx<(getR S y).nx
 ·
  refine go [.v 3 4 (oT _ c25)] ?_
  exact en (.bool true) [] ⟨_,_,rfl,⟨by rw[decide_eq_true (by unfold befB nxR;omega)],rfl⟩,(tk2 (sf1 (sf3 h24.a.t4)))⟩
 refine go [.v 3 4 (oF _ c25),rd 3 7 2 6 1 h24,rd 3 9 0 6 1 h24,.s 3 10] ?_
 by_cases c28:(getR S x).nx=(getR S y).nx
 ·
  refine go [.v 3 10 (qeT _ _ c28),.s 3 14] ?_
  by_cases c29:x<y
  ·
   refine go [.v 3 14 (oT _ c29)] ?_
   exact en (.bool true) [] ⟨_,_,rfl,⟨by rw[decide_eq_true (by unfold befB nxR;omega)],rfl⟩,(tk2 (sf1 (sf3 h24.a.t4)))⟩
  refine go [.v 3 14 (oF _ c29)] ?_
  exact en (.bool false) [] ⟨_,_,rfl,⟨by rw[decide_eq_false (by unfold befB nxR;omega)],rfl⟩,(tk2 (sf1 (sf3 h24.a.t4)))⟩
 refine go [.v 3 10 (qeF _ _ c28)] ?_
 exact en (.bool false) [] ⟨_,_,rfl,⟨by rw[decide_eq_false (by unfold befB nxR;omega)],rfl⟩,(tk2 (sf1 (sf3 h24.a.t4)))⟩
theorem dgood_ht(x0 x1 x2 x3 x4 x5 bt ba cp x9:Int):HQ 85 [.agg #[iV x0,iV x1,iV x2,iV x3,iV x4,iV x5,iV bt,iV ba,iV cp,uV x9]] [] (.bool (decide (cfgE (⟨bt,ba,cp⟩:Cf)=0))) []:=by
 refine hiS func85 ntmps85 fun g w0 R h0=>g0<|nP 24 [iV x0,iV x1,iV x2,iV x3,iV x4,iV x5,iV bt,iV ba,iV cp,uV x9] h0 (fun _ _ h12=> ?_)
 refine go [rd 1 1 0 6 1 h12,.s 1 2] ?_
 by_cases c13:bt≥1
 ·
  refine go [.v 1 2 (oT _ c13),rd 1 5 0 6 1 h12,.s 1 6] ?_
  by_cases c14:bt≤64
  ·
   refine go [.v 1 6 (oT _ c14),rd 1 10 0 7 1 h12,rd 1 12 0 8 1 h12]<|cl0 call170 (dbk_ht ba cp) h12 fun _ h16=> ?_
   by_cases c17:(bkE ba cp)=0
   ·
    refine go [.v 1 14 (qeT _ _ c17)] ?_
    exact en (.bool true) [] ⟨_,_,rfl,⟨by rw[decide_eq_true (by unfold cfgE;simp only[];first|(rw[if_pos om];decide)|exact if_neg om)],rfl⟩,h16.a.t1⟩
   refine go [.v 1 14 (qeF _ _ c17)] ?_
   exact en (.bool false) [] ⟨_,_,rfl,⟨by rw[decide_eq_false (by unfold cfgE;simp only[];first|(rw[if_pos om];decide)|exact if_neg om)],rfl⟩,h16.a.t1⟩
  refine go [.v 1 6 (oF _ c14)] ?_
  exact en (.bool false) [] ⟨_,_,rfl,⟨by rw[decide_eq_false (by unfold cfgE;simp only[];first|(rw[if_pos om];decide)|exact if_neg om)],rfl⟩,h12.a.t1⟩
 refine go [.v 1 2 (oF _ c13)] ?_
 exact en (.bool false) [] ⟨_,_,rfl,⟨by rw[decide_eq_false (by unfold cfgE;simp only[];first|(rw[if_pos om];decide)|exact if_neg om)],rfl⟩,h12.a.t1⟩
theorem dleft_ht(b n:Nat)(S:Ts):HQ 91 [pV b] [Zr b n S.A (allE S.E) S.R] (.tuple #[iV (((nums S.R 2).length:Nat):Int),iV 0]) [Zr b n S.A (allE S.E) S.R]:=by
 refine hiS func91 ntmps91 fun g w0 R h0=>g0<|cP call83 (zrcopy_ht b n S) h0 ?_
 rintro v K _ (⟨b10,rfl,rfl⟩) h12
 have h13:=ap2 h12
 refine g0<|cP call181 (znums_ht b n S 2) h13 ?_
 rintro v K _ (⟨p14,c15,rfl,rfl⟩) h17
 have h18:=ap2 h17
 refine g0 ?_
 exact enR _ [] h18.c.a.t2
theorem dsettled_ht(b n:Nat)(S:Ts):HQ 92 [pV b] [Zr b n S.A (allE S.E) S.R] (.tuple #[.bool (decide ((nums S.R 2).length=0)),iV 0]) [Zr b n S.A (allE S.E) S.R]:=by
 refine hiS func92 ntmps92 fun g w0 R h0=>g0<|cl1 call91 (dleft_ht b n S) h0 fun _ h11=>go [.s 2 4] ?_
 by_cases c12:(((nums S.R 2).length:Nat):Int)=0
 ·
  refine go [.v 2 4 (qeT _ _ c12)] ?_
  exact en (.tuple #[.bool true,iV 0]) [] ⟨_,_,rfl,⟨by rw[decide_eq_true om],rfl⟩,h11⟩
 refine go [.v 2 4 (qeF _ _ c12)] ?_
 exact en (.tuple #[.bool false,iV 0]) [] ⟨_,_,rfl,⟨by rw[decide_eq_false om],rfl⟩,h11⟩
theorem dwake_ht(b n:Nat)(S:Ts)(hW:Wf n S):HQ 90 [pV b] [Zr b n S.A (allE S.E) S.R] (.tuple #[iV (((srtB S)[0]?.map (nxR S)).getD 0),.bool (decide (0<(srtB S).length)),iV 0]) [Zr b n S.A (allE S.E) S.R]:=by
 refine hiS func90 ntmps90 fun g w0 R h0=> ?_
 have hrl_:=hW.rl
 refine g0<|cP call83 (zrcopy_ht b n S) h0 ?_
 rintro v K _ (⟨b10,rfl,rfl⟩) h12
 have h13:=ap2 h12
 refine g0 ?_
 refine lpS (fun mz_ a w=> ∃i:Nat,∃lv:Int,∃fb:Bool,∃lr:Fr,mz_=S.R.length-i∧(i≤S.R.length)∧(wkL S i=if fb=true then some lv else none)∧(fb=false→lv=0)∧a=mk 42 (([(0,pV b),(5,iV lv),(6,.bool fb),(7,iV ((i:Int)+1))]:Fr)++lr)∧sat g w [Zr b n S.A (allE S.E) S.R,R]) (S.R.length-0) ⟨0,0,false,_,rfl,(Nat.zero_le _),rfl,(fun _=>rfl),(lvF [.k 0 (pV b),.k 5 (iV 0),.k 6 (.bool false),.o 7 (oJ .i64 1 ((0:Int)+1))]),(tk2 h13.b.a.t3)⟩ ?_
 rintro m17 a18 w19 ⟨i,lv,fb,lr16,rfl,hi_,hq_,hz_,rfl,h20⟩
 refine ga<|g0<|cl1 call72 (zlen_ht b n S) h20 fun _ h22=> ?_
 by_cases c23:(i:Int)+1≤(S.R.length:Int)
 ·
  have hg24n:nE S ((i:Int)+1)=0:=if_pos ⟨by omega,by omega⟩;have hg24:resR (getR S ((i:Int)+1))=0∧0≤(getR S ((i:Int)+1)).out.2.2∧(getR S ((i:Int)+1)).out.2.2≤4294967295∧(getR S ((i:Int)+1)).tag.length≤96:=wf_get hW hg24n;have hg24a:=hg24.2.1;have hg24b:=hg24.2.2.1;have hg24c:=hg24.2.2.2
  refine go [.v 6 3 (oT _ c23)]<|cl1 call73 (by have h_:=zget_ht b n S ((i:Int)+1);rw[hg24n] at h_;exact h_) h22 fun _ h26=> ?_
  refine g0<|nP 149 [iV 0,iV 0,uV 0,iV 0,iV 0,iV 0,iV 0,.string (St [])] h26 (fun _ _ h29=> ?_)
  refine sA [iV ((getR S ((i:Int)+1)).out.1),iV ((getR S ((i:Int)+1)).out.2.1),uV ((getR S ((i:Int)+1)).out.2.2),iV ((getR S ((i:Int)+1)).st),iV ((getR S ((i:Int)+1)).why),iV ((getR S ((i:Int)+1)).tr),iV ((getR S ((i:Int)+1)).nx),.string (St ((getR S ((i:Int)+1)).tag))] h29 fun _ h31=>go [rd 9 1 0 3 1 h31,.s 9 2] ?_
  by_cases c32:(getR S ((i:Int)+1)).st=2;rotate_left
  ·
   refine go [.v 9 2 (qeF _ _ c32),.v 7 1 (oI (((i:Int)+1)+1) ((i:Int)+2))] ?_
   refine enL ?_
   have h42:=tk2 h31.b.b.t3
   change ∃n',n'<_∧_
   refine⟨(S.R.length-(i+1)),by omega,(i+1),lv,fb,_,rfl,om,((wk_no om).trans hq_),hz_,(lvF [.k 0 (pV b),.k 5 (iV lv),.k 6 (.bool fb),.o 7 (oJ .i64 ((i:Int)+2) ((((i+1):Nat):Int)+1))]),h42⟩
  refine go [.v 9 2 (qeT _ _ c32),.s 9 4] ?_
  rcases Bool.eq_false_or_eq_true fb with cb33|cb33
  ·
   refine go [.v 9 4 (⟨.bool fb,.bool true,(by rw[cb33])⟩),rd 9 8 0 6 1 h31,.s 9 10] ?_
   by_cases c34:(getR S ((i:Int)+1)).nx<lv
   ·
    refine go [.v 9 10 (oT _ c34),rd 10 1 0 6 1 h31,.v 7 1 (oI (((i:Int)+1)+1) ((i:Int)+2))] ?_
    refine enL ?_
    have h36:=tk2 h31.b.b.t3
    change ∃n',n'<_∧_
    refine⟨(S.R.length-(i+1)),by omega,(i+1),(getR S ((i:Int)+1)).nx,true,_,rfl,om,(wk_less om (hq_.trans (by rw[cb33];rfl)) (by unfold nxR;omega)),(fun h_=>by cases h_),(lvF [.k 0 (pV b),.k 5 (iV ((getR S ((i:Int)+1)).nx)),.k 6 (.bool true),.o 7 (oJ .i64 ((i:Int)+2) ((((i+1):Nat):Int)+1))]),h36⟩
   refine go [.v 9 10 (oF _ c34),.v 7 1 (oI (((i:Int)+1)+1) ((i:Int)+2))] ?_
   refine enL ?_
   have h38:=tk2 h31.b.b.t3
   change ∃n',n'<_∧_
   refine⟨(S.R.length-(i+1)),by omega,(i+1),lv,fb,_,rfl,om,((wk_more om (hq_.trans (by rw[cb33];rfl)) (by unfold nxR;omega)).trans (by rw[cb33];rfl)),(fun h_=>by rw[cb33] at h_;cases h_),(lvF [.k 0 (pV b),.k 5 (iV lv),.k 6 (.bool fb),.o 7 (oJ .i64 ((i:Int)+2) ((((i+1):Nat):Int)+1))]),h38⟩
  refine go [.v 9 4 (⟨.bool fb,.bool false,(by rw[cb33])⟩),rd 10 1 0 6 1 h31,.v 7 1 (oI (((i:Int)+1)+1) ((i:Int)+2))] ?_
  refine enL ?_
  have h40:=tk2 h31.b.b.t3
  change ∃n',n'<_∧_
  refine⟨(S.R.length-(i+1)),by omega,(i+1),(getR S ((i:Int)+1)).nx,true,_,rfl,om,(wk_new om (hq_.trans (by rw[cb33];rfl))),(fun h_=>by cases h_),(lvF [.k 0 (pV b),.k 5 (iV ((getR S ((i:Int)+1)).nx)),.k 6 (.bool true),.o 7 (oJ .i64 ((i:Int)+2) ((((i+1):Nat):Int)+1))]),h40⟩
 refine go [.v 6 3 (oF _ c23)]<|up<|go [.s 12 1] ?_
 rcases Bool.eq_false_or_eq_true fb with cb43|cb43
 ·
  refine go [.v 12 1 (⟨.bool fb,.bool true,(by rw[cb43])⟩)] ?_
  exact en (.tuple #[iV lv,.bool true,iV 0]) [] ⟨_,_,rfl,⟨by rw[(wk_end (i:=i) om hq_ hz_).1,(wk_end (i:=i) om hq_ hz_).2,cb43],rfl⟩,h22⟩
 refine go [.v 12 1 (⟨.bool fb,.bool false,(by rw[cb43])⟩)] ?_
 exact en (.tuple #[iV lv,.bool false,iV 0]) [] ⟨_,_,rfl,⟨by rw[(wk_end (i:=i) om hq_ hz_).1,(wk_end (i:=i) om hq_ hz_).2,cb43],rfl⟩,h22⟩
theorem ddue_arg(b n:Nat)(S:Ts)(t mo:Int)(h:t<0∨1099511627776<t∨mo<0):HQ 86 [pV b,iV t,iV mo] [Zr b n S.A (allE S.E) S.R] (.tuple #[.slice none 0 0,iV 2]) [Zr b n S.A (allE S.E) S.R]:=by
 refine hiS func86 ntmps86 fun g w0 R h0=>g0<|cP call83 (zrcopy_ht b n S) h0 ?_
 rintro v K _ (⟨b10,rfl,rfl⟩) h12
 have h13:=ap2 h12
 refine go [.s 3 1] ?_
 by_cases c14:t<0
 ·
  refine go [.v 3 1 (oT _ c14)] ?_
  exact enR _ [] h13.B.t2
 refine go [.v 3 1 (oF _ c14),.s 3 4] ?_
 by_cases c16:t>1099511627776
 ·
  refine go [.v 3 4 (oT _ c16)] ?_
  exact enR _ [] h13.B.t2
 refine go [.v 3 4 (oF _ c16),.v 3 8 (oT (mo<0))] ?_
 exact enR _ [] h13.B.t2
theorem ddue_w(b n:Nat)(S:Ts)(hW:Wf n S)(t mo:Int)(h:0≤t∧t≤1099511627776∧0≤mo):HT prog 86 [pV b,iV t,iV mo] [Zr b n S.A (allE S.E) S.R] (fun v K=> ∃(p:Option Addr) (c:Nat),v= .tuple #[.slice p ((dueB S t mo).length) c,iV 0]∧K= [Zr b n S.A (allE S.E) S.R,Sl 3 1 p ((dueB S t mo).length) c (fl eI (dueB S t mo))]):=by
 refine hiS func86 ntmps86 fun g w0 R h0=> ?_
 have hrl_:=hW.rl
 refine g0<|cP call83 (zrcopy_ht b n S) h0 ?_
 rintro v K w11 (⟨b10,rfl,rfl⟩) h12
 have h13:=ap2 h12
 refine go [.v 3 1 (oF (t<0)),.v 3 4 (oF (t>1099511627776)),.v 3 8 (oF (mo<0))] ?_
 have h14:sat g _ (Sl 3 1 none 0 0 (fl eI [])::_):=sl_nil 3 1 h13
 have h15:sat g _ (Sl 3 1 none 0 0 (fl eI (docL S t 0))::_):=sat_imp h14 (fun _ hh_=>by rw[show ([]:List Int)=(docL S t 0) from rfl] at hh_;exact hh_)
 refine lpS (fun mz_ a w=> ∃i:Nat,∃m:Nat,∃p2:Option Addr,∃c2:Nat,∃lr:Fr,mz_=S.R.length-i∧(i≤S.R.length)∧((docL S t i).length=m)∧(m≤i)∧a=mk 83 (([(0,pV b),(1,iV t),(2,iV mo),(8,.slice p2 m c2),(9,iV ((i:Int)+1))]:Fr)++lr)∧sat g w [Sl 3 1 p2 m c2 (fl eI (docL S t i)),Zr b n S.A (allE S.E) S.R,R]) (S.R.length-0) ⟨0,0,none,0,_,rfl,(Nat.zero_le _),rfl,(Nat.le_refl 0),(lvF [.k 0 (pV b),.k 1 (iV t),.k 2 (iV mo),.k 8 (.slice none 0 0),.o 9 (oJ .i64 1 ((0:Int)+1))]),(tk3 h15.c.b.b.t4)⟩ ?_
 rintro m19 a20 w21 ⟨i,m,p2,c2,lr18,rfl,hi_,hm_,hmi_,rfl,h22⟩
 refine ga ?_
 obtain⟨_,_⟩:=sl_le (sat_sel [0] rfl h22)
 have h23:=h22.a.t3
 refine g0<|cl1 call72 (zlen_ht b n S) h23 fun w24 h25=> ?_
 by_cases c26:(i:Int)+1≤(S.R.length:Int);rotate_left
 ·
  refine go [.v 7 3 (oF _ c26)]<|up<|go [.s 16 3] ?_
  by_cases c174:(m:Int)>mo
  ·
   obtain⟨kk175,hk176⟩: ∃z_:Nat,mo=(z_:Int):=⟨(mo).toNat,by omega⟩
   refine go [.v 16 3 (oT _ c174),.s 17 2]<|lwP (.slice p2 kk175 c2) (law_sliceTo (x:=Ot 79) (y:=Ot 80) (p:=p2) (m:=m) (c:=c2) (z:=mo) kr underlying37 kr kr kr kk175 om om _)<|g0 ?_
   have hd_:(docL S t i).take mo.toNat=dueB S t mo:=by rw[show i=S.R.length from by omega];exact doc_due mo
   have h177:=h25.a.t3
   have hdl_:(dueB S t mo).length=kk175:=by rw[←hd_,List.length_take];omega
   have h178:sat g _ (Sl 3 1 p2 ((dueB S t mo).length) c2 (fl eI (dueB S t mo))::_):=sat_imp (sl_trim h177 (k:=kk175) om om) (fun _ hh_=>by rw[fl_take eI_ok,show kk175=mo.toNat from by omega,hd_,show mo.toNat=(dueB S t mo).length from by omega] at hh_;exact hh_)
   exact en (.tuple #[.slice p2 kk175 c2,iV 0]) [] ⟨_,_,rfl,⟨p2,c2,by rw[hdl_],rfl⟩,h178.a.t3⟩
  refine go [.v 16 3 (oF _ c174)] ?_
  have hd_:(docL S t i).take mo.toNat=dueB S t mo:=by rw[show i=S.R.length from by omega];exact doc_due mo
  have h180:=h25.a.t3
  have hd2_:docL S t i=dueB S t mo:=by rw[←hd_,List.take_of_length_le om]
  have hdl_:(dueB S t mo).length=m:=by rw[←hd2_];omega
  have h181:sat g _ (Sl 3 1 p2 ((dueB S t mo).length) c2 (fl eI (dueB S t mo))::_):=sat_imp h180 (fun _ hh_=>by rw[hdl_,←hd2_];exact hh_)
  exact en (.tuple #[.slice p2 m c2,iV 0]) [] ⟨_,_,rfl,⟨p2,c2,by rw[hdl_],rfl⟩,h181.a.t3⟩
 refine go [.v 7 3 (oT _ c26),.s 9 100000] ?_
 refine jnS (fun a w=> ∃m2:Nat,∃p3:Option Addr,∃c3:Nat,∃lr:Fr,((docL S t (i+1)).length=m2)∧(m2≤i+1)∧a=mk 83 (([(0,pV b),(1,iV t),(2,iV mo),(8,.slice p3 m2 c3),(9,iV ((i:Int)+1))]:Fr)++lr)∧sat g w [Sl 3 1 p3 m2 c3 (fl eI (docL S t (i+1))),Zr b n S.A (allE S.E) S.R,R]) ?_ ?_
 ·
  have hg27n:nE S ((i:Int)+1)=0:=if_pos ⟨by omega,by omega⟩;have hg27:resR (getR S ((i:Int)+1))=0∧0≤(getR S ((i:Int)+1)).out.2.2∧(getR S ((i:Int)+1)).out.2.2≤4294967295∧(getR S ((i:Int)+1)).tag.length≤96:=wf_get hW hg27n;have hg27a:=hg27.2.1;have hg27b:=hg27.2.2.1;have hg27c:=hg27.2.2.2
  refine g0<|cl1 call73 (by have h_:=zget_ht b n S ((i:Int)+1);rw[hg27n] at h_;exact h_) h25 fun _ h29=> ?_
  refine g0<|nP 149 [iV 0,iV 0,uV 0,iV 0,iV 0,iV 0,iV 0,.string (St [])] h29 (fun r30 _ h32=> ?_)
  refine sA [iV ((getR S ((i:Int)+1)).out.1),iV ((getR S ((i:Int)+1)).out.2.1),uV ((getR S ((i:Int)+1)).out.2.2),iV ((getR S ((i:Int)+1)).st),iV ((getR S ((i:Int)+1)).why),iV ((getR S ((i:Int)+1)).tr),iV ((getR S ((i:Int)+1)).nx),.string (St ((getR S ((i:Int)+1)).tag))] h32 fun _ h34=>go [rd 10 0 0 0 8 h34] ?_
  by_cases c35:(getR S ((i:Int)+1)).st=2;rotate_left
  ·
   refine cl0 call171 (ddue_n (getR S ((i:Int)+1)) hg27.1 om om t om om) h34 fun w164 h165=>g0 ?_
   refine enL ?_
   have h167:sat g _ (Sl 3 1 p2 m c2 (fl eI (docL S t (i+1)))::_):=sat_imp h165.b.t4 (fun _ hh_=>by rw[show ((docL S t i):List Int)=(docL S t (i+1)) from (doc_no (fun h_=>by unfold nxR at h_;omega)).symm] at hh_;exact hh_)
   exact⟨m,p2,c2,_,(by rw[doc_no (fun h_=>by unfold nxR at h_;omega)];exact hm_),om,(lvF [.k 0 (pV b),.k 1 (iV t),.k 2 (iV mo),.k 8 (.slice p2 m c2),.k 9 (iV ((i:Int)+1))]),(tk3 h167.c.c.b.t4)⟩
  by_cases c36:(getR S ((i:Int)+1)).nx≤t;rotate_left
  ·
   refine cl0 call171 (ddue_n (getR S ((i:Int)+1)) hg27.1 om om t om om) h34 fun w158 h159=>g0 ?_
   refine enL ?_
   have h161:sat g _ (Sl 3 1 p2 m c2 (fl eI (docL S t (i+1)))::_):=sat_imp h159.b.t4 (fun _ hh_=>by rw[show ((docL S t i):List Int)=(docL S t (i+1)) from (doc_no (fun h_=>by unfold nxR at h_;omega)).symm] at hh_;exact hh_)
   exact⟨m,p2,c2,_,(by rw[doc_no (fun h_=>by unfold nxR at h_;omega)];exact hm_),om,(lvF [.k 0 (pV b),.k 1 (iV t),.k 2 (iV mo),.k 8 (.slice p2 m c2),.k 9 (iV ((i:Int)+1))]),(tk3 h161.c.c.b.t4)⟩
  refine cl0 call171 (ddue_y (getR S ((i:Int)+1)) hg27.1 om om t om om) h34 fun _ h38=>go [.s 13 100001] ?_
  refine jnS (fun a w=> ∃kq:Nat,∃lr:Fr,(kq≤m)∧(∀(j:Nat) (y:Int),j<kq→(docL S t i)[j]? =some y→befB S y ((i:Int)+1))∧(∀y:Int,(docL S t i)[kq]? =some y→ ¬befB S y ((i:Int)+1))∧a=mk 83 (([(0,pV b),(1,iV t),(2,iV mo),(8,.slice p2 m c2),(9,iV ((i:Int)+1)),(14,iV (kq:Int))]:Fr)++lr)∧sat g w [Cl r30 [iV ((getR S ((i:Int)+1)).out.1),iV ((getR S ((i:Int)+1)).out.2.1),uV ((getR S ((i:Int)+1)).out.2.2),iV ((getR S ((i:Int)+1)).st),iV ((getR S ((i:Int)+1)).why),iV ((getR S ((i:Int)+1)).tr),iV ((getR S ((i:Int)+1)).nx),.string (St ((getR S ((i:Int)+1)).tag))] 149,Zr b n S.A (allE S.E) S.R,Sl 3 1 p2 m c2 (fl eI (docL S t i)),R]) ?_ ?_
  ·
   refine g0 ?_
   refine lpS (fun mz_ a w=> ∃k:Nat,∃lr:Fr,mz_=m-k∧(k≤m)∧(∀(j:Nat) (y:Int),j<k→(docL S t i)[j]? =some y→befB S y ((i:Int)+1))∧a=mk 83 (([(0,pV b),(1,iV t),(2,iV mo),(8,.slice p2 m c2),(9,iV ((i:Int)+1)),(14,iV (k:Int))]:Fr)++lr)∧sat g w [Cl r30 [iV ((getR S ((i:Int)+1)).out.1),iV ((getR S ((i:Int)+1)).out.2.1),uV ((getR S ((i:Int)+1)).out.2.2),iV ((getR S ((i:Int)+1)).st),iV ((getR S ((i:Int)+1)).why),iV ((getR S ((i:Int)+1)).tr),iV ((getR S ((i:Int)+1)).nx),.string (St ((getR S ((i:Int)+1)).tag))] 149,Zr b n S.A (allE S.E) S.R,Sl 3 1 p2 m c2 (fl eI (docL S t i)),R]) (m-0) ⟨0,_,rfl,(Nat.zero_le _),(fun j_ _ hj_=>absurd hj_ (Nat.not_lt_zero _)),(lvF [.k 0 (pV b),.k 1 (iV t),.k 2 (iV mo),.k 8 (.slice p2 m c2),.k 9 (iV ((i:Int)+1)),.o 14 (oJ .i64 0 (0:Int))]),h38⟩ ?_
   rintro m40 a41 w42 ⟨k,lr39,rfl,hk_,hb_,rfl,h43⟩
   refine ga<|go [.s 13 3] ?_
   by_cases c44:(k:Int)<(m:Int)
   ·
    obtain⟨b45,hp46⟩:=sl_ptr0 (j:=2) h43 rfl om
    refine go [.v 13 3 (oT _ c44),.s 13 8]<|lwP (.pointer (some ⟨b45,k,none⟩)) (liP (Ot 54) (Ot 55) p2 b45 0 (k:Int) m c2 underlying37 1 k hp46 k) ?_
    obtain⟨x47,hx48⟩: ∃x,(docL S t i)[k]? =some x:=⟨_,List.getElem?_eq_getElem (by rw[hm_];omega)⟩
    refine go [.r 13 9 b45 k [iV x47] ⟨gvc 2 h43 rfl hp46 eI_ok 0 (iV x47) hx48 k,trivial⟩] ?_
    rcases Bool.eq_false_or_eq_true (decide (befB S x47 ((i:Int)+1))) with cb49|cb49
    ·
     refine cl1 call172 (by have h_:=dbef_ht b n S x47 ((i:Int)+1);rw[cb49] at h_;exact h_) h43.a.t4 fun _ h52=> ?_
     refine go [.v 14 1 (oIr ((k:Int)+1))] ?_
     refine enL ?_
     have h53:=h52.a.t4
     change ∃n',n'<_∧_
     refine⟨(m-(k+1)),by omega,(k+1),_,rfl,om,(bef_step hb_ hx48 (of_decide_eq_true cb49)),(lvF [.k 0 (pV b),.k 1 (iV t),.k 2 (iV mo),.k 8 (.slice p2 m c2),.k 9 (iV ((i:Int)+1)),.o 14 (oJ .i64 ((k:Int)+1) (((k+1):Nat):Int))]),h53⟩
    refine cl1 call172 (by have h_:=dbef_ht b n S x47 ((i:Int)+1);rw[cb49] at h_;exact h_) h43.a.t4 fun _ h56=> ?_
    refine g0<|up<|g0 ?_
    refine enL ?_
    exact⟨k,_,om,hb_,(fun y_ hy_=>by rw[hx48] at hy_;obtain rfl:=Option.some.inj hy_;exact of_decide_eq_false cb49),(lvF [.k 0 (pV b),.k 1 (iV t),.k 2 (iV mo),.k 8 (.slice p2 m c2),.k 9 (iV ((i:Int)+1)),.k 14 (iV (k:Int))]),h56.a.t4⟩
   refine go [.v 13 3 (oF _ c44)]<|up<|g0 ?_
   refine enL ?_
   exact⟨k,_,om,hb_,(fun y_ hy_=>by rw[List.getElem?_eq_none om] at hy_;cases hy_),(lvF [.k 0 (pV b),.k 1 (iV t),.k 2 (iV mo),.k 8 (.slice p2 m c2),.k 9 (iV ((i:Int)+1)),.k 14 (iV (k:Int))]),h43⟩
  rintro a58 w59 ⟨kq,lr61,hkq_,hbq_,hnq_,rfl,h60⟩
  refine ga<|g0<|dw (fls [1,2,3,5,8,9,10] (Tr.an2 0 (Tr.an2 4 (Tr.an 6 (Tr.an 7 (Tr.an 11 (Tr.fl 12 Tr.nil)))) 6 (Tr.an 4 (Tr.an 7 (Tr.an 11 (Tr.fl 12 Tr.nil))))) 6 (Tr.an 0 (Tr.an 4 (Tr.an 7 (Tr.an 11 (Tr.fl 12 Tr.nil))))))) h60 fun _ h63=>go [.s 15 3]<|lw (.slice p2 kq c2) (fun _=>law_sliceTo (x:=Ot 64) (y:=Ot 65) (p:=p2) (m:=m) (c:=c2) (z:=(kq:Int)) kr underlying37 kr kr kr kq om om _) ?_
  obtain⟨q64,hq65⟩: ∃q:Option Addr,q=if c2=kq then p2 else p2.map (fun a:Addr=>a.add (kq*1)):=⟨_,rfl⟩
  refine go [.s 15 10]<|lw (.slice q64 (m-kq) (c2-kq)) (fun _=>law_sliceFrom (x:=Ot 71) (y:=Ot 72) (p:=p2) (m:=m) (c:=c2) (sz:=1) (z:=(kq:Int)) kr underlying37 kr kr kr kq om om hq65 _) ?_
  refine br2 ?_ ?_;rotate_left
  ·
   refine nG (fun q_=> .slice (some ⟨q_,0,none⟩) 1 1) 3 [iV ((i:Int)+1)] h63 (fun r127 _ h129=>⟨kd [],?_⟩)
   refine nG (fun q_=> .slice (some ⟨q_,0,none⟩) 0 0) 3 [] h129 (fun r130 w131 h132=>⟨kd [],?_⟩)
   have h133:sat g _ (Sl 3 1 (some ⟨r130,0,none⟩) 0 0 (fl eI [])::_):=sl_of_cl h132 rfl om
   refine actG ?_
   refine aG 67 1 (Ot 63) (Ot 66) (iV 0) (some ⟨r130,0,none⟩) p2 0 0 kq c2 8 underlying37 h133 4 rfl (fl eI ((docL S t i).take kq)) (gv_list eI_ok (gv_sl _ _ _) om) (by rw[fl_len eI_ok,show ((docL S t i).take kq).length=kq from (by rw[List.length_take,hm_];omega)]) (fl_one eI_ok _) kq ?_
   intro p134 cap135 w136 h137
   have h138:sat g _ (Sl 3 1 p134 kq cap135 (fl eI ((docL S t i).take kq))::_):=sI h137
   obtain⟨hn139,hn140⟩:=sl_le h138
   refine⟨kd [],nxG ?_⟩
   refine actG ?_
   refine aA 70 1 (Ot 67) (Ot 69) (iV 0) p134 kq cap135 1 1 (⟨r127,0,none⟩) 8 underlying37 h138 (fl eI [(i:Int)+1]) rfl (cell1 h138 rfl) (fl_one eI_ok _) (kq+1) ?_
   intro p141 cap142 w143 h144
   have h145:sat g _ (Sl 3 1 p141 (kq+1) cap142 (fl eI (((docL S t i).take kq)++ [(i:Int)+1]))::_):=sJ h144
   obtain⟨hn146,hn147⟩:=sl_le h145
   refine⟨kd [],nxG ?_⟩
   refine actG ?_
   refine aG 74 1 (Ot 70) (Ot 73) (iV 0) p141 q64 (kq+1) cap142 (m-kq) (c2-kq) 8 underlying37 h145 4 rfl (fl eI ((docL S t i).drop kq)) (gv_from eI_ok (gv_sl _ _ _) hm_ om om hq65) (by rw[fl_len eI_ok,show ((docL S t i).drop kq).length=m-kq from (by rw[List.length_drop,hm_])]) (fl_one eI_ok _) (m+1) ?_
   intro p148 cap149 w150 h151
   have h152:sat g _ (Sl 3 1 p148 (m+1) cap149 (fl eI ((((docL S t i).take kq)++ [(i:Int)+1])++((docL S t i).drop kq)))::_):=sJ h151
   obtain⟨hn153,hn154⟩:=sl_le h152
   refine⟨kd [],nxG ?_⟩
   refine g0 ?_
   refine enL ?_
   have h155:sat g _ (Sl 3 1 p148 (m+1) cap149 (fl eI (docL S t (i+1)))::_):=sat_imp h152 (fun _ hh_=>by rw[show (((((docL S t i).take kq)++ [(i:Int)+1])++((docL S t i).drop kq)):List Int)=(docL S t (i+1)) from ((insB_at hbq_ om hnq_).trans (doc_go ⟨by omega,by unfold nxR;omega⟩).symm)] at hh_;exact hh_)
   exact⟨m+1,p148,cap149,_,(by rw[doc_go ⟨by omega,by unfold nxR;omega⟩,insB_len];omega),om,(lvF [.k 0 (pV b),.k 1 (iV t),.k 2 (iV mo),.k 8 (.slice p148 (m+1) cap149),.k 9 (iV ((i:Int)+1))]),(tk3 h155.e.d.b.t6)⟩
  refine nG (fun q_=> .slice (some ⟨q_,0,none⟩) 0 0) 3 [] h63 (fun r66 w67 h68=>⟨kd [],?_⟩)
  refine br2 ?_ ?_
  ·
   have h69:sat g _ (Sl 3 1 (some ⟨r66,0,none⟩) 0 0 (fl eI [])::_):=sl_of_cl h68 rfl om
   refine actG ?_
   refine aG 67 1 (Ot 63) (Ot 66) (iV 0) (some ⟨r66,0,none⟩) p2 0 0 kq c2 8 underlying37 h69 3 rfl (fl eI ((docL S t i).take kq)) (gv_list eI_ok (gv_sl _ _ _) om) (by rw[fl_len eI_ok,show ((docL S t i).take kq).length=kq from (by rw[List.length_take,hm_];omega)]) (fl_one eI_ok _) kq ?_
   intro p70 cap71 w72 h73
   have h74:sat g _ (Sl 3 1 p70 kq cap71 (fl eI ((docL S t i).take kq))::_):=sI h73
   obtain⟨hn75,hn76⟩:=sl_le h74
   refine⟨kd [],nxG ?_⟩
   refine nG (fun q_=> .slice (some ⟨q_,0,none⟩) 1 1) 3 [iV ((i:Int)+1)] h74 (fun r77 _ h79=>⟨kd [],?_⟩)
   have h80:=h79.a.t6
   refine actG ?_
   refine aA 70 1 (Ot 67) (Ot 69) (iV 0) p70 kq cap71 1 1 (⟨r77,0,none⟩) 8 underlying37 h80 (fl eI [(i:Int)+1]) rfl (cell1 h80 rfl) (fl_one eI_ok _) (kq+1) ?_
   intro p81 cap82 w83 h84
   have h85:sat g _ (Sl 3 1 p81 (kq+1) cap82 (fl eI (((docL S t i).take kq)++ [(i:Int)+1]))::_):=sJ h84
   obtain⟨hn86,hn87⟩:=sl_le h85
   refine⟨kd [],nxG ?_⟩
   refine actG ?_
   refine aG 74 1 (Ot 70) (Ot 73) (iV 0) p81 q64 (kq+1) cap82 (m-kq) (c2-kq) 8 underlying37 h85 4 rfl (fl eI ((docL S t i).drop kq)) (gv_from eI_ok (gv_sl _ _ _) hm_ om om hq65) (by rw[fl_len eI_ok,show ((docL S t i).drop kq).length=m-kq from (by rw[List.length_drop,hm_])]) (fl_one eI_ok _) (m+1) ?_
   intro p88 cap89 w90 h91
   have h92:sat g _ (Sl 3 1 p88 (m+1) cap89 (fl eI ((((docL S t i).take kq)++ [(i:Int)+1])++((docL S t i).drop kq)))::_):=sJ h91
   obtain⟨hn93,hn94⟩:=sl_le h92
   refine⟨kd [],nxG ?_⟩
   refine g0 ?_
   refine enL ?_
   have h95:sat g _ (Sl 3 1 p88 (m+1) cap89 (fl eI (docL S t (i+1)))::_):=sat_imp h92 (fun _ hh_=>by rw[show (((((docL S t i).take kq)++ [(i:Int)+1])++((docL S t i).drop kq)):List Int)=(docL S t (i+1)) from ((insB_at hbq_ om hnq_).trans (doc_go ⟨by omega,by unfold nxR;omega⟩).symm)] at hh_;exact hh_)
   exact⟨m+1,p88,cap89,_,(by rw[doc_go ⟨by omega,by unfold nxR;omega⟩,insB_len];omega),om,(lvF [.k 0 (pV b),.k 1 (iV t),.k 2 (iV mo),.k 8 (.slice p88 (m+1) cap89),.k 9 (iV ((i:Int)+1))]),(tk3 h95.e.d.b.t6)⟩
  refine nG (fun q_=> .slice (some ⟨q_,0,none⟩) 1 1) 3 [iV ((i:Int)+1)] h68 (fun r98 w99 h100=>⟨kd [],?_⟩)
  have h102:sat g _ (Sl 3 1 (some ⟨r66,0,none⟩) 0 0 (fl eI [])::_):=sl_of_cl h100.a.t6 rfl om
  refine actG ?_
  refine aG 67 1 (Ot 63) (Ot 66) (iV 0) (some ⟨r66,0,none⟩) p2 0 0 kq c2 8 underlying37 h102 4 rfl (fl eI ((docL S t i).take kq)) (gv_list eI_ok (gv_sl _ _ _) om) (by rw[fl_len eI_ok,show ((docL S t i).take kq).length=kq from (by rw[List.length_take,hm_];omega)]) (fl_one eI_ok _) kq ?_
  intro p103 cap104 w105 h106
  have h107:sat g _ (Sl 3 1 p103 kq cap104 (fl eI ((docL S t i).take kq))::_):=sI h106
  obtain⟨hn108,hn109⟩:=sl_le h107
  refine⟨kd [],nxG ?_⟩
  refine actG ?_
  refine aA 70 1 (Ot 67) (Ot 69) (iV 0) p103 kq cap104 1 1 (⟨r98,0,none⟩) 8 underlying37 h107 (fl eI [(i:Int)+1]) rfl (cell1 h107 rfl) (fl_one eI_ok _) (kq+1) ?_
  intro p110 cap111 w112 h113
  have h114:sat g _ (Sl 3 1 p110 (kq+1) cap111 (fl eI (((docL S t i).take kq)++ [(i:Int)+1]))::_):=sJ h113
  obtain⟨hn115,hn116⟩:=sl_le h114
  refine⟨kd [],nxG ?_⟩
  refine actG ?_
  refine aG 74 1 (Ot 70) (Ot 73) (iV 0) p110 q64 (kq+1) cap111 (m-kq) (c2-kq) 8 underlying37 h114 4 rfl (fl eI ((docL S t i).drop kq)) (gv_from eI_ok (gv_sl _ _ _) hm_ om om hq65) (by rw[fl_len eI_ok,show ((docL S t i).drop kq).length=m-kq from (by rw[List.length_drop,hm_])]) (fl_one eI_ok _) (m+1) ?_
  intro p117 cap118 w119 h120
  have h121:sat g _ (Sl 3 1 p117 (m+1) cap118 (fl eI ((((docL S t i).take kq)++ [(i:Int)+1])++((docL S t i).drop kq)))::_):=sJ h120
  obtain⟨hn122,hn123⟩:=sl_le h121
  refine⟨kd [],nxG ?_⟩
  refine g0 ?_
  refine enL ?_
  have h124:sat g _ (Sl 3 1 p117 (m+1) cap118 (fl eI (docL S t (i+1)))::_):=sat_imp h121 (fun _ hh_=>by rw[show (((((docL S t i).take kq)++ [(i:Int)+1])++((docL S t i).drop kq)):List Int)=(docL S t (i+1)) from ((insB_at hbq_ om hnq_).trans (doc_go ⟨by omega,by unfold nxR;omega⟩).symm)] at hh_;exact hh_)
  exact⟨m+1,p117,cap118,_,(by rw[doc_go ⟨by omega,by unfold nxR;omega⟩,insB_len];omega),om,(lvF [.k 0 (pV b),.k 1 (iV t),.k 2 (iV mo),.k 8 (.slice p117 (m+1) cap118),.k 9 (iV ((i:Int)+1))]),(tk3 h124.e.d.b.t6)⟩
 rintro a170 w171 ⟨m2,p3,c3,lr173,hm2_,hmi2_,rfl,h172⟩
 refine ga<|go [.v 8 1 (oI (((i:Int)+1)+1) ((i:Int)+2))] ?_
 exact enN (S.R.length-(i+1)) ⟨(i+1),m2,p3,c3,_,rfl,om,hm2_,hmi2_,(lvF [.k 0 (pV b),.k 1 (iV t),.k 2 (iV mo),.k 8 (.slice p3 m2 c3),.o 9 (oJ .i64 ((i:Int)+2) ((((i+1):Nat):Int)+1))]),h172⟩
section
def Ded(S:Wst)(o:Ky):Prop:= ∃e g,(As (S.tab o.1))[o.2.1.toNat]? =some (e,g)∧(o.2.2<g∨(o.2.2=g∧e=2))
structure Onc (S:Wst) (G:List Ky):Prop where
 gd: ∀o∈G,KGood o∧(Thr S o∨ ∃a∈S.T,a.out=o∧a.ans=1)
 tk: ∀a∈S.T,KGood a.out
 td: ∀a∈S.T,a.ans=1→Ded S a.out
 pw: ∀(i k:Nat) (a b:At),k<i→S.T[k]? =some a→S.T[i]? =some b→a.out=b.out→a.ans≠1
 ln:(allS S).length≤G.length
section
variable {S S' : Wst} {G : List Ky} {s : Sq} {o o' : Ky} {k a y t : Int}
theorem acq_at{i:Nat}{g:Int}(h:acqE S k a=0)(hf:fre (S.tab k)=some (i,g)){k':Int}(hk:k'=1∨k'=2∨k'=3)(j:Nat):(As ((acqS S k a).tab k'))[j]? =if k'=k∧j=i then some (1,g) else (As (S.tab k'))[j]? :=by
 rw[acq_tab h hk]
 by_cases h1:k'=k
 · subst h1
   rw[if_pos rfl]
   have e:grw (S.tab k') (valO S k' a)=(S.tab k').set i (1,g,valO S k' a):=by unfold grw;rw[hf]
   have hi:=(List.getElem?_eq_some_iff.1 (fre_as hf)).1
   rw[e,as_set,List.getElem?_set]
   by_cases h2:j=i
   · subst h2
     rw[if_pos rfl,if_pos hi,if_pos ⟨rfl,rfl⟩]
   · rw[if_neg (fun q=>h2 q.symm),if_neg (fun q=>h2 q.2)]
 · rw[if_neg h1,if_neg (fun q=>h1 q.1)]
theorem rel_ats(h:relE S o y=0){k':Int}(hk:k'=1∨k'=2∨k'=3)(j:Nat):(As ((relS S o y).tab k'))[j]? =if relA S o y=1∧k'=o.1∧j=o.2.1.toNat then some ((shut o.2.2).1,(shut o.2.2).2.1) else (As (S.tab k'))[j]? :=by
 rw[rel_tab h hk]
 by_cases h1:relA S o y=1∧k'=o.1
 · obtain⟨h1a,rfl⟩:=h1
   rw[if_pos ⟨h1a,rfl⟩]
   have hi:=(List.getElem?_eq_some_iff.1 (rel_zero h).2.2.2.1.2).1
   unfold giv
   rw[as_set,List.getElem?_set]
   by_cases h2:j=o.2.1.toNat
   · subst h2
     rw[if_pos rfl,if_pos hi,if_pos ⟨h1a,rfl,rfl⟩]
   · rw[if_neg (fun q=>h2 q.symm),if_neg (fun q=>h2 q.2.2)]
 · rw[if_neg h1,if_neg (fun q=>h1 ⟨q.1,q.2.1⟩)]
end
end
section
structure Jv (X:Pw):Prop where
 wf:Wf 64 X.1
 wk:WOk X.2
 th: ∀r∈X.1.R,r.st=1∨r.st=2→Thr X.2 r.out
section
variable {S : Wst} {o o2 : Ky} {k a y : Int}
theorem thrB_rel(h:relE S o y=0)(h2:Thr S o2)(hn:o2≠o):Thr (relS S o y) o2:=by
 have ht:=(rel_zero h).2.2.2.1
 refine⟨h2.1,?_⟩
 rw[rel_ats h (kgood_k h2.1) _,if_neg ?_]
 · exact h2.2
 · rintro⟨_,e1,e2⟩
   have e3:=h2.2
   rw[e1,e2,ht.2] at e3
   simp only[Option.some.injEq,Prod.mk.injEq,true_and] at e3
   have g1:=h2.1.2.2.1
   have g2:=ht.1.2.2.1
   exact hn (Prod.ext e1 (Prod.ext om e3.symm))
theorem thr_keep(h:relE S o y=0)(h2:relA S o y≠1)(h3:Thr S o2):Thr (relS S o y) o2:=by
 refine⟨h3.1,?_⟩
 rw[rel_ats h (kgood_k h3.1) _,if_neg (fun q=>h2 q.1)]
 exact h3.2
theorem thrB_acq(h:Thr S o):Thr (acqS S k a) o:=by
 by_cases he:acqE S k a=0
 · obtain⟨i,g,hf,_,_⟩:=acq_nm he
   refine⟨h.1,?_⟩
   rw[acq_at he hf (kgood_k h.1) _]
   split
   · rename_i h1
     have e:=h.2
     rw[h1.1,h1.2,fre_as hf] at e
     simp at e
   · exact h.2
 · rcases acq_keep he with e|e<;>rw[e]
   · exact h
   · exact h
theorem thr_tck(t:Int)(h:Thr S o):Thr (tckS S t) o:=⟨h.1,by rw[tck_as];exact h.2⟩
theorem thr_asw(l:List UInt8)(h:Thr S o):Thr (aswS S l) o:=h
end
theorem opn_R(S:Ts)(o:Ky)(L:List UInt8)(h:Int×Int):(topE S o L h≠0∧opnS S o L h=S)∨(topE S o L h=0∧(opnS S o L h).R=S.R++ [⟨o,1,0,0,0,L⟩]):=by
 by_cases h0:topE S o L h=0
 · refine .inr ⟨h0,?_⟩
   unfold opnS addS
   rw[if_pos h0]
   split<;>rfl
 · refine .inl ⟨h0,?_⟩
   unfold opnS
   rw[if_neg h0]
theorem set_R(S:Ts)(v:Int)(r:Rs):(setE S v r≠0∧setS S v r=S)∨(setE S v r=0∧(setS S v r).R=S.R.set (v-1).toNat r):=by
 by_cases h0:setE S v r=0
 · refine .inr ⟨h0,?_⟩
   unfold setS
   rw[if_pos h0]
 · refine .inl ⟨h0,?_⟩
   unfold setS
   rw[if_neg h0]
theorem descsB_nil{S:Ts}(W:Wf 64 S){v:Int}(hs:(getR S v).st≠1):(descs S.E v).length=0:=by
 cases h:descs S.E v with
 |nil=>rfl
 |cons d D=>
  have hm:d∈descs S.E v:=by rw[h];exact List.mem_cons_self
  obtain⟨e,h1,_,h3⟩:=descs_at W hm
  obtain⟨_,_,⟨q,r,h4,h5,_,h6⟩,_⟩:=W.ent _ e h1
  exact absurd (by rw[←h3,h5,getR_some h4];exact h6) hs
theorem nE_iff{S:Ts}{v:Int}:nE S v=0↔1≤v∧v≤(S.R.length:Int):=by
 unfold nE
 split<;>simp_all
theorem set_ok{S:Ts}{v:Int}{r:Rs}(hn:nE S v=0)(hr:resR r=0)(ho:r.out=(getR S v).out)(ht:r.tag=(getR S v).tag)(hd:r.st≠1→(descs S.E v).length=0):setE S v r=0∧(setS S v r).R=S.R.set (v-1).toNat r:=by
 have h0:setE S v r=0:=by
  unfold setE
  rw[if_neg om,if_neg om,if_neg (by rintro(h|h);exact h ho;exact h ht),if_neg (by rintro⟨h1,h2⟩;have:=hd h1;omega)]
 exact⟨h0,by unfold setS;rw[if_pos h0]⟩
theorem getR_set{S S2:Ts}{v u:Int}{r:Rs}(hR:S2.R=S.R.set (v-1).toNat r)(hn:nE S v=0)(hu:1≤u):getR S2 u=if u=v then r else getR S u:=by
 have hv:=nE_iff.1 hn
 unfold getR
 rw[if_pos hu,hR,List.getElem?_set]
 split
 · rename_i h
   split
   · rw[if_pos om];rfl
   · omega
 · rename_i h
   rw[if_neg (fun e=>h (by rw[e]))]
theorem triR_ok{r:Rs}{a now wt:Int}(hr:resR r=0)(h2:r.st=2)(ha:1≤a∧a≤3)(hn:0≤now)(hw:1≤wt)(h:triE r a now wt=0):resR (triR r a now wt)=0∧(triR r a now wt).st≠1∧((triR r a now wt).st=2→a=2):=by
 obtain⟨hp,ht⟩:=res_ok hr
 unfold posP at hp
 unfold triE at h
 unfold triR
 split
 · refine⟨?_,by show (3:Int)≠1;decide,fun q=>absurd q (by show (3:Int)≠2;decide)⟩
   show resE r.out.1 r.out.2.1 r.out.2.2 3 r.why r.tr 0 r.tag=0
   unfold resE
   rw[if_pos (by unfold posP;omega),ht]
 · split
   · refine⟨?_,by show (4:Int)≠1;decide,fun q=>absurd q (by show (4:Int)≠2;decide)⟩
     show resE r.out.1 r.out.2.1 r.out.2.2 4 r.why r.tr 0 r.tag=0
     unfold resE
     rw[if_pos (by unfold posP;omega),ht]
   · have ha2:a=2:=by omega
     have h3: ¬(a=2∧(1099511627776-wt<now∨10000≤r.tr)):=fun q=>by rw[if_pos q] at h;cases h
     refine⟨?_,by show r.st≠1;omega,fun _=>ha2⟩
     show resE r.out.1 r.out.2.1 r.out.2.2 r.st r.why (r.tr+1) (now+wt) r.tag=0
     unfold resE
     rw[if_pos (by unfold posP;omega),ht]
def trN(r:Rs)(a now wt:Int):Rs:=if triE r a now wt=0 then triR r a now wt else r
theorem trN_out(r:Rs)(a now wt:Int):(trN r a now wt).out=r.out:=by
 unfold trN
 split
 · exact triR_out _ _ _ _
 · rfl
theorem triE_1{r:Rs}{a now wt:Int}(h:a≠2):triE r a now wt=0:=if_neg fun q=>h q.1
theorem wt_bd{c:Cf}(hb:1≤c.ba∧c.ba≤c.cp)(r:Rs):1≤wtOf c r∧wtOf c r≤c.cp:=wtN_bd hb _
theorem stp_ok{c:Cf}{now n:Int}{X:Pw}(J:Jv X)(hn:nE X.1 n=0)(h2:(getR X.1 n).st=2)(hT:X.2.T.length<10000)(hb:1≤c.ba∧c.ba≤c.cp)(hnow:now=X.2.now):
  relE X.2 (getR X.1 n).out (getR X.1 n).why=0∧(1≤relA X.2 (getR X.1 n).out (getR X.1 n).why∧relA X.2 (getR X.1 n).out (getR X.1 n).why≤3)∧Jv (stpB c now X n)∧
   (stpB c now X n).1.R=X.1.R.set (n-1).toNat (trN (getR X.1 n) (relA X.2 (getR X.1 n).out (getR X.1 n).why) now (wtOf c (getR X.1 n))):=by
 obtain⟨hr,_⟩:=wf_get J.wf hn
 have hp:=(res_ok hr).1
 unfold posP at hp
 have hv:=nE_iff.1 hn
 have hm:=List.mem_of_getElem? (getR_at hv)
 have hth:=J.th _ hm (.inr h2)
 obtain⟨he,ha1,ha3,_⟩:=rel_y (y:=(getR X.1 n).why) J.wk hth om hT
 have hw:=wt_bd hb (getR X.1 n)
 have hnl:=J.wk.nl
 refine⟨he,⟨ha1,ha3⟩,?_⟩
 have hR:(stpB c now X n).1.R=X.1.R.set (n-1).toNat (trN (getR X.1 n) (relA X.2 (getR X.1 n).out (getR X.1 n).why) now (wtOf c (getR X.1 n))):=by
  unfold stpB trN
  by_cases ht:triE (getR X.1 n) (relA X.2 (getR X.1 n).out (getR X.1 n).why) now (wtOf c (getR X.1 n))=0
  · rw[if_pos ht,if_pos ht]
    exact(set_ok hn (triR_ok hr h2 ⟨ha1,ha3⟩ om hw.1 ht).1 (triR_out _ _ _ _) (triR_tag _ _ _ _) (fun _=>descsB_nil J.wf om)).2
  · rw[if_neg ht,if_neg ht,set_self (getR_at hv)]
 refine⟨⟨?_,wok_rel J.wk _ _,?_⟩,hR⟩
 · unfold stpB
   split
   · exact wf_set J.wf _ _
   · exact J.wf
 · intro r hr2 hst
   rw[hR] at hr2
   obtain⟨q,hq⟩:=List.getElem?_of_mem hr2
   rw[List.getElem?_set] at hq
   show Thr (relS X.2 _ _) r.out
   split at hq
   · split at hq
     · obtain rfl:=Option.some.inj hq
       rw[trN_out]
       have hA:relA X.2 (getR X.1 n).out (getR X.1 n).why≠1:=fun e=>by
        have h4:(trN (getR X.1 n) (relA X.2 (getR X.1 n).out (getR X.1 n).why) now (wtOf c (getR X.1 n))).st=3:=by
         unfold trN triR
         rw[if_pos (triE_1 om),if_pos e]
        omega
       exact thr_keep he hA hth
     · cases hq
   · rename_i hne
     have hr3:=J.th r (List.mem_of_getElem? hq) hst
     refine thrB_rel he hr3 fun(e:r.out=(getR X.1 n).out)=> ?_
     have hnd:=J.wf.out
     have e1:(X.1.R.map (·.out))[q]? =some (getR X.1 n).out:=by rw[List.getElem?_map,hq];exact congrArg some e
     have e2:(X.1.R.map (·.out))[(n-1).toNat]? =some (getR X.1 n).out:=by rw[List.getElem?_map,getR_at hv];rfl
     have e3:=(List.getElem?_inj (List.getElem?_eq_some_iff.1 e2).1 hnd).1 (e2.trans e1.symm)
     exact hne e3
theorem stp_T{c:Cf}{now n:Int}{X:Pw}(he:relE X.2 (getR X.1 n).out (getR X.1 n).why=0):(stpB c now X n).2.T=X.2.T++ [attB X.2.now X n]∧(stpB c now X n).2.now=X.2.now:=rel_T he
theorem runOk_nil(c:Cf)(now:Int)(X:Pw):RunOk c now X []:=fun i n h=>by simp at h
theorem stB_cons{c:Cf}{now n:Int}{X:Pw}{l:List Int}(i:Nat):stB c now X (n::l) (i+1)=stB c now (stpB c now X n) l i:=by
 unfold stB runB
 rw[List.take_succ_cons,List.foldl_cons]
theorem runOk_cons{c:Cf}{now n:Int}{X:Pw}{l:List Int}(h1:nE X.1 n=0∧(getR X.1 n).st=2∧relE X.2 (getR X.1 n).out (getR X.1 n).why=0)(h2:RunOk c now (stpB c now X n) l):RunOk c now X (n::l):=by
 intro i m hm
 cases i with
 |zero=>
  rw[List.getElem?_cons_zero] at hm
  obtain rfl:=Option.some.inj hm
  exact h1
 |succ i=>
  rw[List.getElem?_cons_succ] at hm
  rw[stB_cons]
  exact h2 i m hm
theorem run_J{c:Cf}{now:Int}(hb:1≤c.ba∧c.ba≤c.cp): ∀ {l:List Int} {X:Pw},Jv X→now=X.2.now→l.Nodup→(∀n∈l,nE X.1 n=0∧(getR X.1 n).st=2)→X.2.T.length+l.length≤10000→
  RunOk c now X l∧Jv (runB c now X l)∧(runB c now X l).2.T.length=X.2.T.length+l.length∧(runB c now X l).1.R.length=X.1.R.length∧(runB c now X l).2.now=now
 | [],X,J,hnow,_,_,_=>⟨runOk_nil _ _ _,J,rfl,rfl,hnow.symm⟩
 |n::l,X,J,hnow,hnd,hl,hT=>by
  rw[List.length_cons] at hT
  obtain⟨h1,h2⟩:=hl n List.mem_cons_self
  obtain⟨he,_,J2,hR⟩:=stp_ok (c:=c) J h1 h2 om hb hnow
  have hT2:=stp_T (c:=c) (now:=now) he
  rw[List.nodup_cons] at hnd
  have hlen:(stpB c now X n).2.T.length=X.2.T.length+1:=by rw[hT2.1,List.length_append];rfl
  have hRl:(stpB c now X n).1.R.length=X.1.R.length:=by rw[hR,List.length_set]
  obtain⟨g1,g2,g3,g4,g5⟩:=run_J hb (l:=l) (now:=now) J2 (hnow.trans hT2.2.symm) hnd.2 (fun m hm=>by
   obtain⟨h3,h4⟩:=hl m (List.mem_cons_of_mem _ hm)
   have hmn:m≠n:=fun e=>hnd.1 (e▸hm)
   have hv:=nE_iff.1 h3
   refine⟨nE_iff.2 (by rw[hRl];exact hv),?_⟩
   rw[getR_set hR h1 hv.1,if_neg hmn]
   exact h4) (by rw[hlen];omega)
  refine⟨runOk_cons ⟨h1,h2,he⟩ g1,g2,?_,g4.trans hRl,g5⟩
  show (runB c now (stpB c now X n) l).2.T.length=_
  rw[g3,hlen,List.length_cons]
  omega
theorem cfg_bd{c:Cf}(hc:cfgE c=0):1≤c.bt∧c.bt≤64∧1≤c.ba∧c.ba≤c.cp∧c.cp≤1048576:=by
 have h1: ¬(c.bt<1∨64<c.bt∨bkE c.ba c.cp≠0):=fun h=>by
  unfold cfgE at hc
  rw[if_pos h] at hc
  cases hc
 have h2: ¬(c.ba<1∨c.cp<c.ba∨1048576<c.cp):=fun h=>h1 (.inr (.inr (by
  unfold bkE
  rw[if_pos h]
  decide)))
 exact⟨Decidable.byContradiction fun h=>h1 (.inl om),Decidable.byContradiction fun h=>h1 (.inr (.inl om)),by omega,by omega,by omega⟩
theorem due_run{c:Cf}{X:Pw}(J:Jv X)(hc:cfgE c=0)(hT:X.2.T.length+64≤10000):RunOk c X.2.now X (dueB X.1 X.2.now c.bt)∧Jv (rnS c X)∧(rnS c X).2.T.length=X.2.T.length+(dueB X.1 X.2.now c.bt).length∧(rnS c X).1.R.length=X.1.R.length∧(rnS c X).2.now=X.2.now∧(dueB X.1 X.2.now c.bt).length≤64:=by
 have hb:=cfg_bd hc
 have hl:=due_len X.1 X.2.now (most:=c.bt) om
 obtain⟨g1,g2,g3,g4,g5⟩:=run_J (c:=c) ⟨hb.2.2.1,hb.2.2.2.1⟩ (l:=dueB X.1 X.2.now c.bt) J rfl (due_nd _ _ _) (fun n hn=>⟨(mem_due hn).1,(mem_due hn).2.1⟩) om
 unfold rnS
 rw[if_pos hc]
 exact⟨g1,g2,g3,g4,g5,by omega⟩
theorem J_zero:Jv (ts0,wnew 1) where
 wf:=wf_new dc dc
 wk:=wok_new dc
 th r hr:=by cases hr
theorem J_opn{X:Pw}(J:Jv X)(n i:Int):Jv (opnP X n i):=by
 have hO:=acqO_bd J.wk (whK n) (whX n)
 refine⟨?_,wok_acq J.wk _ _,?_⟩
 · unfold opnP
   simp only
   split
   · exact wf_opn J.wf hO.2 _ _
   · exact J.wf
 · intro r hr hst
   unfold opnP at hr
   simp only at hr
   show Thr (acqS X.2 (whK n) (whX n)) r.out
   split at hr
   · rename_i he
     rcases opn_R X.1 (acqO X.2 (whK n) (whX n)) [116] (i%256,i/256+1) with ⟨_,h⟩|⟨_,h⟩
     · rw[h] at hr
       exact thrB_acq (J.th r hr hst)
     · rw[h] at hr
       rcases List.mem_append.1 hr with hr|hr
       · exact thrB_acq (J.th r hr hst)
       · rw[List.mem_singleton.1 hr]
         exact(acq_thr J.wk he).1
   · exact thrB_acq (J.th r hr hst)
theorem J_shu{X:Pw}(J:Jv X)(n:Int)(hl:0≤n):Jv (shuP X n):=by
 refine⟨?_,J.wk,?_⟩
 · unfold shuP
   simp only
   split
   · exact J.wf
   · split
     · exact wf_set (wf_exp J.wf _) _ _
     · exact J.wf
 · intro r hr hst
   unfold shuP at hr
   simp only at hr
   show Thr X.2 r.out
   split at hr
   · exact J.th r hr hst
   · rename_i h0
     split at hr
     · rename_i h1
       rcases set_R (expS X.1 (shK X.1 n)) (shK X.1 n) (cloR (getR X.1 (shK X.1 n)) (n/7%3+1) X.2.now) with ⟨_,h⟩|⟨_,h⟩
       · rw[h,exp_R] at hr
         exact J.th r hr hst
       · rw[h,exp_R] at hr
         rcases List.mem_or_eq_of_mem_set hr with hr|rfl
         · exact J.th r hr hst
         · have h2:=Int.emod_nonneg n (b:=(X.1.R.length:Int)) om
           have h3:=Int.emod_lt_of_pos n (b:=(X.1.R.length:Int)) om
           have hv:1≤shK X.1 n∧shK X.1 n≤(X.1.R.length:Int):=by unfold shK;omega
           exact J.th (getR X.1 (shK X.1 n)) (List.mem_of_getElem? (getR_at hv)) (.inl h1)
     · exact J.th r hr hst
structure Iv (k:Nat) (X:Pw):Prop where
 j:Jv X
 tn:X.2.T.length≤64*k
 nw:X.2.now≤300*(k:Int)
 rn:X.1.R.length≤k
theorem acq_Tn(S:Wst)(k a:Int):(acqS S k a).T=S.T∧(acqS S k a).now=S.now:=acq_T
theorem Iv_step{c:Cf}{X:Pw}{i:Nat}{t:Tn}(hc:cfgE c=0)(ht:TnOk t)(hi:i<150)(h:Iv i X):Iv (i+1) (stepP c X i t):=by
 have h1:=h.tn
 have h2:=h.nw
 have h3:=h.rn
 by_cases e0:t.k%8=0∨t.k%8=1
 · rw[step_opn e0]
   have hT:=acq_Tn X.2 (whK t.n) (whX t.n)
   refine⟨J_opn h.j _ _,?_,?_,?_⟩
   · show (acqS X.2 (whK t.n) (whX t.n)).T.length≤_
     rw[hT.1];omega
   · show (acqS X.2 (whK t.n) (whX t.n)).now≤_
     rw[hT.2];omega
   · unfold opnP
     simp only
     split
     · rcases opn_R X.1 (acqO X.2 (whK t.n) (whX t.n)) [116] ((i:Int)%256,(i:Int)/256+1) with ⟨_,h⟩|⟨_,h⟩
       · rw[h];omega
       · rw[h,List.length_append];show _+1≤_;omega
     · omega
 · by_cases e1:t.k%8=2∨t.k%8=3
   · rw[step_shu e1]
     refine⟨J_shu h.j _ ht.2.1,by show X.2.T.length≤_;omega,by show X.2.now≤_;omega,?_⟩
     unfold shuP
     simp only
     split
     · omega
     · split
       · rcases set_R (expS X.1 (shK X.1 t.n)) (shK X.1 t.n) (cloR (getR X.1 (shK X.1 t.n)) (t.n/7%3+1) X.2.now) with ⟨_,h⟩|⟨_,h⟩
         · rw[h,exp_R];omega
         · rw[h,exp_R,List.length_set];omega
       · omega
   · by_cases e2:t.k%8=4
     · rw[step_tck e2]
       refine⟨⟨h.j.wf,wok_tck h.j.wk _,fun r hr hst=>thr_tck _ (h.j.th r hr hst)⟩,by show (tckS X.2 _).T.length≤_;rw[tck_T];omega,?_,by show X.1.R.length≤_;omega⟩
       show (tckS X.2 (t.n%300+1)).now≤_
       have:=Int.emod_lt_of_pos t.n (b:=300) dc
       unfold tckS
       split
       · show X.2.now+(t.n%300+1)≤_;omega
       · omega
     · by_cases e3:t.k%8=5
       · rw[step_asw e3]
         exact⟨⟨h.j.wf,wok_asw h.j.wk _,fun r hr hst=>thr_asw _ (h.j.th r hr hst)⟩,by show X.2.T.length≤_;omega,by show X.2.now≤_;omega,by show X.1.R.length≤_;omega⟩
       · have hr:isRun t:=by
          unfold isRun
          have:=Int.emod_nonneg t.k (b:=8) dc
          omega
         rw[step_run hr]
         obtain⟨_,g2,g3,g4,g5,g6⟩:=due_run h.j hc om
         exact⟨g2,by rw[g3];omega,by rw[g5];omega,by rw[g4];omega⟩
theorem Iv_all{c:Cf}{T:List Tn}(hc:cfgE c=0)(hT: ∀t∈T,TnOk t): ∀i,i≤150→Iv i (plP c T i)
 |0,_=>⟨J_zero,Nat.zero_le _,by show (0:Int)≤_;omega,Nat.zero_le _⟩
 |i+1,hi=>by
  have h:=Iv_all hc hT i om
  show Iv (i+1) (match T[i]? with |some t=>stepP c (plP c T i) i t|none=>plP c T i)
  split
  · rename_i t ht
    exact Iv_step hc (hT t (List.mem_of_getElem? ht)) om h
  · exact⟨h.j,by have:=h.tn;omega,by have:=h.nw;omega,by have:=h.rn;omega⟩
theorem pl_ok{c:Cf}{T:List Tn}(hc:cfgE c=0)(hT: ∀t∈T,TnOk t)(hn:T.length≤150):PlOk c T:=by
 intro i t ht hr
 have hi:=(List.getElem?_eq_some_iff.1 ht).1
 have h:=Iv_all hc hT i om
 exact(due_run h.j hc (by have:=h.tn;omega)).1
end
theorem drun_arg(b n rb:Nat)(S:Ts)(W:Wst)(x0 x1 x2 x3 x4 x5 bt ba cp x9:Int)(hW:Wf n S)(hc: ¬cfgE (⟨bt,ba,cp⟩:Cf)=0):HQ 35 [pV b,pV rb,.agg #[iV x0,iV x1,iV x2,iV x3,iV x4,iV x5,iV bt,iV ba,iV cp,uV x9]] [Zr b n S.A (allE S.E) S.R,WdR rb W] (.tuple #[.slice none 0 0,iV 2]) [Zr b n S.A (allE S.E) S.R,WdR rb W]:=by
 refine hiS func35 ntmps35 fun g w0 R h0=> ?_
 have hrl_:=hW.rl
 refine g0<|nP 24 [iV x0,iV x1,iV x2,iV x3,iV x4,iV x5,iV bt,iV ba,iV cp,uV x9] h0 (fun _ _ h12=> ?_)
 have h14:=h12.a.t4
 refine g0<|cP call83 (zrcopy_ht b n S) h14 ?_
 rintro v K _ (⟨b13,rfl,rfl⟩) h16
 have h19:=(ap2 h16).c.t5
 refine g0<|cP call84 (r12copy_ht rb W) h19 ?_
 rintro v K _ (⟨b18,rfl,rfl⟩) h21
 have h22:=ap2 h21
 refine go [rd 3 0 4 0 10 h22]<|cl0 call85 (by have h_:=dgood_ht x0 x1 x2 x3 x4 x5 bt ba cp x9;rw[decide_eq_false hc] at h_;exact h_) h22 fun _ h24=> ?_
 refine g0 ?_
 exact enR _ [] (tk3 (sf2 (sf2 (sf5 h24.b.t6))))
theorem drun_ok(b n rb:Nat)(S:Ts)(W:Wst)(x0 x1 x2 x3 x4 x5 bt ba cp x9:Int)(hW:Wf n S)(hc:cfgE (⟨bt,ba,cp⟩:Cf)=0)(hrun:RunOk (⟨bt,ba,cp⟩:Cf) W.now (S,W) (dueB S W.now bt)):HT prog 35 [pV b,pV rb,.agg #[iV x0,iV x1,iV x2,iV x3,iV x4,iV x5,iV bt,iV ba,iV cp,uV x9]] [Zr b n S.A (allE S.E) S.R,WdR rb W] (fun v K=> ∃(p:Option Addr) (c:Nat),v= .tuple #[.slice p ((rnL (⟨bt,ba,cp⟩:Cf) (S,W)).length) c,iV 0]∧K= [Zr b n (((rnS (⟨bt,ba,cp⟩:Cf) (S,W)).1).A) (allE ((rnS (⟨bt,ba,cp⟩:Cf) (S,W)).1).E) (((rnS (⟨bt,ba,cp⟩:Cf) (S,W)).1).R),WdR rb ((rnS (⟨bt,ba,cp⟩:Cf) (S,W)).2),Sl 74 6 p ((rnL (⟨bt,ba,cp⟩:Cf) (S,W)).length) c (fl eAt (rnL (⟨bt,ba,cp⟩:Cf) (S,W)))]):=by
 refine hiS func35 ntmps35 fun g w0 R h0=> ?_
 obtain⟨hb1_,hb2_,hb3_,hb4_,hb5_⟩:=cfg_bd hc
 simp only at hb1_ hb2_ hb3_ hb4_ hb5_
 have hk_:=(rw_get (j:=1) h0 rfl).1;have hkn_:=hk_.nl;have hkh_:=hk_.nh;have hdl_:(dueB S W.now bt).length≤64:=by have:=due_len S W.now (most:=bt) om;omega
 have hrl_:=hW.rl
 refine g0<|nP 24 [iV x0,iV x1,iV x2,iV x3,iV x4,iV x5,iV bt,iV ba,iV cp,uV x9] h0 (fun r10 _ h12=> ?_)
 have h14:=h12.a.t4
 refine g0<|cP call83 (zrcopy_ht b n S) h14 ?_
 rintro v K _ (⟨b13,rfl,rfl⟩) h16
 have h19:=(ap2 h16).c.t5
 refine g0<|cP call84 (r12copy_ht rb W) h19 ?_
 rintro v K _ (⟨b18,rfl,rfl⟩) h21
 have h22:=ap2 h21
 refine go [rd 3 0 4 0 10 h22]<|cl0 call85 (by have h_:=dgood_ht x0 x1 x2 x3 x4 x5 bt ba cp x9;rw[decide_eq_true hc] at h_;exact h_) h22 fun _ h24=> ?_
 refine g0<|cl1 call75 (r12now_ht rb W) h24 fun _ h26=> ?_
 have h29:=h26.b.t6
 refine go [rd 6 3 4 6 1 h26]<|cP call86 (ddue_w b n S hW W.now bt om) h29 ?_
 rintro v K w30 (⟨p27,c28,rfl,rfl⟩) h31
 have h32:=ap2 h31
 refine g0 ?_
 have h33:sat g _ (Sl 74 6 none 0 0 (fl eAt [])::_):=sl_nil 74 6 h32
 have h34:sat g _ (Sl 74 6 none 0 0 (fl eAt ((atsB (⟨bt,ba,cp⟩:Cf) W.now (S,W) (dueB S W.now bt)).take 0))::_):=sat_imp h33 (fun _ hh_=>by rw[show ([]:List At)=((atsB (⟨bt,ba,cp⟩:Cf) W.now (S,W) (dueB S W.now bt)).take 0) from (by simp)] at hh_;exact hh_)
 refine lpS (fun mz_ a w=> ∃i:Nat,∃Y:Pw,∃p2:Option Addr,∃c2:Nat,∃lr:Fr,mz_=((dueB S W.now bt).length)-i∧((stB (⟨bt,ba,cp⟩:Cf) W.now (S,W) (dueB S W.now bt) i)=Y)∧(i≤(dueB S W.now bt).length)∧(Wf n Y.1)∧a=mk 108 (([(0,pV b),(1,pV rb),(5,pV r10),(8,iV W.now),(9,.slice p27 ((dueB S W.now bt).length) c28),(11,.slice p2 i c2),(12,iV (i:Int))]:Fr)++lr)∧sat g w [Sl 74 6 p2 i c2 (fl eAt ((atsB (⟨bt,ba,cp⟩:Cf) W.now (S,W) (dueB S W.now bt)).take i)),Zr b n Y.1.A (allE Y.1.E) Y.1.R,WdR rb Y.2,Sl 3 1 p27 ((dueB S W.now bt).length) c28 (fl eI (dueB S W.now bt)),Cl r10 [iV x0,iV x1,iV x2,iV x3,iV x4,iV x5,iV bt,iV ba,iV cp,uV x9] 24,R]) ((dueB S W.now bt).length-0) ⟨0,(S,W),none,0,_,rfl,rfl,(Nat.zero_le _),hW,(lvF [.k 0 (pV b),.k 1 (pV rb),.k 5 (pV r10),.k 8 (iV W.now),.k 9 (.slice p27 ((dueB S W.now bt).length) c28),.k 11 (.slice none 0 0),.o 12 (oJ .i64 0 (0:Int))]),(tk6 h34.x.x.d.e.e.e.t8)⟩ ?_
 rintro m38 a39 w40 ⟨i,Y,p2,c2,lr37,rfl,hY_,hi_,hWy_,rfl,h41⟩
 refine ga<|go [.s 9 3] ?_
 by_cases c42:(i:Int)<(((dueB S W.now bt).length:Nat):Int)
 ·
  obtain⟨b43,hp44⟩:=sl_ptr0 (j:=3) h41 rfl om
  refine go [.v 9 3 (oT _ c42),.s 11 3]<|lwP (.pointer (some ⟨b43,i,none⟩)) (liP (Ot 50) (Ot 51) p27 b43 0 (i:Int) ((dueB S W.now bt).length) c28 underlying37 1 i hp44 i) ?_
  have h45:=h41.c.t6
  have hl46:=fl_n eI_ok dc h45
  obtain⟨x47,hx48⟩: ∃x,(dueB S W.now bt)[i]? =some x:=⟨_,List.getElem?_eq_getElem (by rw[hl46];omega)⟩
  have hq49:=hrun i x47 hx48;rw[hY_] at hq49;have hq49w:=wf_get hWy_ hq49.1;have hq49k:=(rw_get (j:=3) h45 rfl).1;have hq49r:=relA_bd hq49k hq49.2.2
  obtain⟨r_,hr_⟩: ∃r,getR Y.1 x47=r:=⟨_,rfl⟩
  rw[hr_] at hq49 hq49w hq49r
  obtain⟨a_,ha_⟩: ∃a,relA Y.2 r_.out r_.why=a:=⟨_,rfl⟩
  rw[ha_] at hq49r
  have hq49a:=hq49.2.1;have hq49b:=hq49w.2.1;have hq49c:=hq49w.2.2.1;have hq49p:=(res_ok hq49w.1).1;unfold posP at hq49p
  have hq49f:0≤r_.tr∧r_.tr≤10000:=(by omega);have hq49n:Y.2.now=W.now:=(by rw[←hY_];exact stB_now);have hq49l:=hq49k.nl;have hq49h:=hq49k.nh;rw[hq49n] at hq49l hq49h
  have h50:=h45.b.t6
  refine go [.r 11 4 b43 i [iV x47] ⟨gvc 0 h45 rfl hp44 eI_ok 0 (iV x47) hx48 i,trivial⟩]<|cl1 call73 (by have h_:=zget_ht b n Y.1 x47;rw[hr_,hq49.1] at h_;exact h_) h50 fun _ h52=> ?_
  refine g0<|nP 149 [iV 0,iV 0,uV 0,iV 0,iV 0,iV 0,iV 0,.string (St [])] h52 (fun r53 _ h55=> ?_)
  refine sA [iV r_.out.1,iV r_.out.2.1,uV r_.out.2.2,iV r_.st,iV r_.why,iV r_.tr,iV r_.nx,.string (St r_.tag)] h55 fun _ h57=> ?_
  have h58:=h57.d.t7
  refine go [rd 12 2 0 0 3 h57,rd 12 4 0 4 1 h57]<|cl1 call87 (by have h_:=rrel_ht rb Y.2 r_.out.1 r_.out.2.1 r_.out.2.2 r_.why om om;rw[show relA Y.2 ((r_.out.1,r_.out.2.1,r_.out.2.2):Ky) r_.why=a_ from ha_,show relE Y.2 ((r_.out.1,r_.out.2.1,r_.out.2.2):Ky) r_.why=0 from hq49.2.2] at h_;exact h_) h58 fun _ h60=> ?_
  refine go [rd 14 3 1 0 3 h60,rd 14 5 1 4 1 h60]<|nG (fun q_=> .slice (some ⟨q_,0,none⟩) 1 1) 74 [iV W.now,iV r_.out.1,iV r_.out.2.1,uV r_.out.2.2,iV r_.why,iV a_] h60 (fun r61 _ h63=>⟨kd [],?_⟩)
  have h64:=h63.e.t8
  refine actG ?_
  refine aA 77 6 (Ot 68) (Ot 76) (.agg #[iV 0,iV 0,iV 0,uV 0,iV 0,iV 0]) p2 i c2 1 1 (⟨r61,0,none⟩) 48 underlying41 h64 (fl eAt [(⟨W.now,(r_.out.1,r_.out.2.1,r_.out.2.2),r_.why,a_⟩:At)]) rfl (cell1 h64 rfl) (fl_one eAt_ok _) (i+1) ?_
  intro p65 cap66 w67 h68
  have h69:sat g _ (Sl 74 6 p65 (i+1) cap66 (fl eAt (((atsB (⟨bt,ba,cp⟩:Cf) W.now (S,W) (dueB S W.now bt)).take i)++ [(⟨W.now,(r_.out.1,r_.out.2.1,r_.out.2.2),r_.why,a_⟩:At)]))::_):=sJ h68
  obtain⟨hn70,hn71⟩:=sl_le h69
  refine nxA ?_
  obtain⟨q72,hq73,hq73a,hq73b,hq73c⟩: ∃q:Int,(if 64<r_.tr+1 then 64 else r_.tr+1)=q∧q≤r_.tr+1∧q≤64∧1≤q:=⟨_,rfl,by split<;>omega,by split<;>omega,by split<;>omega⟩
  have hw74:wtB q72 ba cp=wtOf (⟨bt,ba,cp⟩:Cf) r_:=by unfold wtOf;rw[show min (r_.tr+1) 64=q72 from by rw[←hq73];try (split<;>omega)]
  have hw74b:1≤wtB q72 ba cp∧wtB q72 ba cp≤1048576:=by have h_:=wtN_bd (base:=ba) (cap:=cp) ⟨by omega,by omega⟩ (q72-1).toNat;exact⟨h_.1,by have:=h_.2;unfold wtB;omega⟩
  refine go [rd 15 1 3 5 1 h69,.v 15 2 (oIr (r_.tr+1)),.v 15 3 (⟨iV (if 64<r_.tr+1 then 64 else r_.tr+1),iV q72,(ov_int hq73)⟩),rd 15 5 6 7 1 h69,rd 15 7 6 8 1 h69]<|cl0 call88 (dwait_ht q72 ba cp om om) h69 fun _ h76=>go [rd 16 0 3 0 8 h76]<|cl0 call89 (dtri_ht r_ hq49w.1 om om a_ W.now (wtB q72 ba cp) om om om om) h76 fun _ h78=>g0<|nP 149 [iV 0,iV 0,uV 0,iV 0,iV 0,iV 0,iV 0,.string (St [])] h78 (fun r79 _ h81=> ?_)
  refine sA [iV ((triX r_ a_ W.now (wtB q72 ba cp)).out.1),iV ((triX r_ a_ W.now (wtB q72 ba cp)).out.2.1),uV ((triX r_ a_ W.now (wtB q72 ba cp)).out.2.2),iV ((triX r_ a_ W.now (wtB q72 ba cp)).st),iV ((triX r_ a_ W.now (wtB q72 ba cp)).why),iV ((triX r_ a_ W.now (wtB q72 ba cp)).tr),iV ((triX r_ a_ W.now (wtB q72 ba cp)).nx),.string (St ((triX r_ a_ W.now (wtB q72 ba cp)).tag))] h81 fun w82 h83=>go [.s 17 1] ?_
  by_cases c84:(triE r_ a_ W.now (wtB q72 ba cp))=0
  ·
   refine go [.v 17 1 (qeT _ _ c84)]<|dw (fls [0,1,2,3,4,5] (Tr.an 6 Tr.nil)) h83 fun _ h86=>go [.s 18 3]<|lw (.pointer (some ⟨b43,i,none⟩)) (fun _=>liP (Ot 101) (Ot 102) p27 b43 0 (i:Int) ((dueB S W.now bt).length) c28 underlying37 1 i hp44 i) ?_
   have ht87:=triX_ok (show triE r_ a_ W.now (wtB q72 ba cp)=0 by first|assumption|omega);have ht87a:=ht87.2.1;have ht87b:(triX r_ a_ W.now (wtB q72 ba cp)).tag.length≤96:=by rw[ht87.2.2];exact hq49w.2.2.2
   have h88:=h86.e.t9
   refine go [.r 18 4 b43 i [iV x47] ⟨gvc 6 h86 rfl hp44 eI_ok 0 (iV x47) hx48 i,trivial⟩,rd 18 5 0 0 8 h86]<|cw1 call77 (zset_ht b n Y.1 hWy_ x47 ((triX r_ a_ W.now (wtB q72 ba cp)).out.1) ((triX r_ a_ W.now (wtB q72 ba cp)).out.2.1) ((triX r_ a_ W.now (wtB q72 ba cp)).out.2.2) ((triX r_ a_ W.now (wtB q72 ba cp)).st) ((triX r_ a_ W.now (wtB q72 ba cp)).why) ((triX r_ a_ W.now (wtB q72 ba cp)).tr) ((triX r_ a_ W.now (wtB q72 ba cp)).nx) ((triX r_ a_ W.now (wtB q72 ba cp)).tag) om om (by first|omega|decide)) h88 fun w89 h90=>⟨kd [],?_⟩
   refine go [.v 10 1 (oIr ((i:Int)+1))] ?_
   refine enL ?_
   have hH91:triE (getR Y.1 x47) (relA Y.2 (getR Y.1 x47).out (getR Y.1 x47).why) W.now (wtOf (⟨bt,ba,cp⟩:Cf) (getR Y.1 x47))=0:=by rw[hr_,ha_,←hw74];first|assumption|(show (triE r_ a_ W.now (wtB q72 ba cp)=0);omega)
   have hH91x:triR (getR Y.1 x47) (relA Y.2 (getR Y.1 x47).out (getR Y.1 x47).why) W.now (wtOf (⟨bt,ba,cp⟩:Cf) (getR Y.1 x47))=triX r_ a_ W.now (wtB q72 ba cp):=by rw[hr_,ha_,←hw74];exact ht87.1.symm
   have hs92:(stB (⟨bt,ba,cp⟩:Cf) W.now (S,W) (dueB S W.now bt) (i+1))=((setS Y.1 x47 ⟨((triX r_ a_ W.now (wtB q72 ba cp)).out.1,(triX r_ a_ W.now (wtB q72 ba cp)).out.2.1,(triX r_ a_ W.now (wtB q72 ba cp)).out.2.2),(triX r_ a_ W.now (wtB q72 ba cp)).st,(triX r_ a_ W.now (wtB q72 ba cp)).why,(triX r_ a_ W.now (wtB q72 ba cp)).tr,(triX r_ a_ W.now (wtB q72 ba cp)).nx,(triX r_ a_ W.now (wtB q72 ba cp)).tag⟩),relS Y.2 ((r_.out.1,r_.out.2.1,r_.out.2.2):Ky) r_.why):=(stB_succ hx48).trans (by rw[hY_];exact Prod.ext ((if_pos hH91).trans (congrArg (setS Y.1 x47) hH91x)) (by show relS Y.2 (getR Y.1 x47).out (getR Y.1 x47).why=_;rw[hr_]))
   have h94:sat g _ (Sl 74 6 p65 (i+1) cap66 (fl eAt ((atsB (⟨bt,ba,cp⟩:Cf) W.now (S,W) (dueB S W.now bt)).take (i+1)))::_):=sat_imp h90.b.t9 (fun _ hh_=>by rw[show ((((atsB (⟨bt,ba,cp⟩:Cf) W.now (S,W) (dueB S W.now bt)).take i)++ [(⟨W.now,(r_.out.1,r_.out.2.1,r_.out.2.2),r_.why,a_⟩:At)]):List At)=((atsB (⟨bt,ba,cp⟩:Cf) W.now (S,W) (dueB S W.now bt)).take (i+1)) from ((congrArg (fun a_=>(atsB (⟨bt,ba,cp⟩:Cf) W.now (S,W) (dueB S W.now bt)).take i++ [a_]) (by unfold attB;rw[hY_,hr_,ha_])).trans (takeB_go (ats_at hx48)))] at hh_;exact hh_)
   have h96:=tk6 h94.h.h.h.x.e.e.t9
   change ∃n',n'<_∧_
   refine⟨(((dueB S W.now bt).length)-(i+1)),by omega,(i+1),((setS Y.1 x47 ⟨((triX r_ a_ W.now (wtB q72 ba cp)).out.1,(triX r_ a_ W.now (wtB q72 ba cp)).out.2.1,(triX r_ a_ W.now (wtB q72 ba cp)).out.2.2),(triX r_ a_ W.now (wtB q72 ba cp)).st,(triX r_ a_ W.now (wtB q72 ba cp)).why,(triX r_ a_ W.now (wtB q72 ba cp)).tr,(triX r_ a_ W.now (wtB q72 ba cp)).nx,(triX r_ a_ W.now (wtB q72 ba cp)).tag⟩),relS Y.2 ((r_.out.1,r_.out.2.1,r_.out.2.2):Ky) r_.why),p65,cap66,_,rfl,hs92,om,(wf_set hWy_ _ _),(lvF [.k 0 (pV b),.k 1 (pV rb),.k 5 (pV r10),.k 8 (iV W.now),.k 9 (.slice p27 ((dueB S W.now bt).length) c28),.k 11 (.slice p65 (i+1) cap66),.o 12 (oJ .i64 ((i:Int)+1) (((i+1):Nat):Int))]),h96⟩
  refine go [.v 17 1 (qeF _ _ c84),.v 10 1 (oIr ((i:Int)+1))] ?_
  refine enL ?_
  have hH97: ¬(triE (getR Y.1 x47) (relA Y.2 (getR Y.1 x47).out (getR Y.1 x47).why) W.now (wtOf (⟨bt,ba,cp⟩:Cf) (getR Y.1 x47))=0):=by rw[hr_,ha_,←hw74];first|assumption|(show ¬(triE r_ a_ W.now (wtB q72 ba cp)=0);omega)
  have hs98:(stB (⟨bt,ba,cp⟩:Cf) W.now (S,W) (dueB S W.now bt) (i+1))=(Y.1,relS Y.2 ((r_.out.1,r_.out.2.1,r_.out.2.2):Ky) r_.why):=(stB_succ hx48).trans (by rw[hY_];exact Prod.ext (if_neg hH97) (by show relS Y.2 (getR Y.1 x47).out (getR Y.1 x47).why=_;rw[hr_]))
  have h100:sat g _ (Sl 74 6 p65 (i+1) cap66 (fl eAt ((atsB (⟨bt,ba,cp⟩:Cf) W.now (S,W) (dueB S W.now bt)).take (i+1)))::_):=sat_imp h83.a.t9 (fun _ hh_=>by rw[show ((((atsB (⟨bt,ba,cp⟩:Cf) W.now (S,W) (dueB S W.now bt)).take i)++ [(⟨W.now,(r_.out.1,r_.out.2.1,r_.out.2.2),r_.why,a_⟩:At)]):List At)=((atsB (⟨bt,ba,cp⟩:Cf) W.now (S,W) (dueB S W.now bt)).take (i+1)) from ((congrArg (fun a_=>(atsB (⟨bt,ba,cp⟩:Cf) W.now (S,W) (dueB S W.now bt)).take i++ [a_]) (by unfold attB;rw[hY_,hr_,ha_])).trans (takeB_go (ats_at hx48)))] at hh_;exact hh_)
  have h102:=tk6 h100.h.h.h.f.h.e.t9
  change ∃n',n'<_∧_
  refine⟨(((dueB S W.now bt).length)-(i+1)),by omega,(i+1),(Y.1,relS Y.2 ((r_.out.1,r_.out.2.1,r_.out.2.2):Ky) r_.why),p65,cap66,_,rfl,hs98,om,hWy_,(lvF [.k 0 (pV b),.k 1 (pV rb),.k 5 (pV r10),.k 8 (iV W.now),.k 9 (.slice p27 ((dueB S W.now bt).length) c28),.k 11 (.slice p65 (i+1) cap66),.o 12 (oJ .i64 ((i:Int)+1) (((i+1):Nat):Int))]),h102⟩
 refine go [.v 9 3 (oF _ c42)]<|up<|g0 ?_
 have hs_:Y=runB (⟨bt,ba,cp⟩:Cf) W.now (S,W) (dueB S W.now bt):=by rw[←hY_,show i=(dueB S W.now bt).length from by omega];exact stB_end _ _ _ _
 have hn_:(rnS (⟨bt,ba,cp⟩:Cf) (S,W))=Y:=by unfold rnS;rw[if_pos hc];exact hs_.symm
 have hl_:(rnL (⟨bt,ba,cp⟩:Cf) (S,W))=(atsB (⟨bt,ba,cp⟩:Cf) W.now (S,W) (dueB S W.now bt)):=if_pos hc
 have hll_:(rnL (⟨bt,ba,cp⟩:Cf) (S,W)).length=i:=by rw[hl_,ats_len];omega
 have h103:sat g _ (Sl 74 6 p2 i c2 (fl eAt (rnL (⟨bt,ba,cp⟩:Cf) (S,W)))::_):=sat_imp h41 (fun _ hh_=>by rw[show (((atsB (⟨bt,ba,cp⟩:Cf) W.now (S,W) (dueB S W.now bt)).take i):List At)=(rnL (⟨bt,ba,cp⟩:Cf) (S,W)) from (by rw[hl_,List.take_of_length_le (by rw[ats_len];omega)])] at hh_;exact hh_)
 have h104:sat g _ (Sl 74 6 p2 ((rnL (⟨bt,ba,cp⟩:Cf) (S,W)).length) c2 (fl eAt (rnL (⟨bt,ba,cp⟩:Cf) (S,W)))::_):=sat_imp h103 (fun _ hh_=>by rw[hll_];exact hh_)
 have h105:=h104.a.t6
 have h106:sat g w40 [Zr b n (((rnS (⟨bt,ba,cp⟩:Cf) (S,W)).1).A) (allE ((rnS (⟨bt,ba,cp⟩:Cf) (S,W)).1).E) (((rnS (⟨bt,ba,cp⟩:Cf) (S,W)).1).R),Sl 74 6 p2 ((rnL (⟨bt,ba,cp⟩:Cf) (S,W)).length) c2 (fl eAt (rnL (⟨bt,ba,cp⟩:Cf) (S,W))),WdR rb Y.2,Sl 3 1 p27 ((dueB S W.now bt).length) c28 (fl eI (dueB S W.now bt)),Cl r10 [iV x0,iV x1,iV x2,iV x3,iV x4,iV x5,iV bt,iV ba,iV cp,uV x9] 24,R]:=(show Y.1=((rnS (⟨bt,ba,cp⟩:Cf) (S,W)).1) from (by rw[hn_]))▸h105
 have h107:=h106.b.t6
 have h108:sat g w40 [WdR rb ((rnS (⟨bt,ba,cp⟩:Cf) (S,W)).2),Zr b n (((rnS (⟨bt,ba,cp⟩:Cf) (S,W)).1).A) (allE ((rnS (⟨bt,ba,cp⟩:Cf) (S,W)).1).E) (((rnS (⟨bt,ba,cp⟩:Cf) (S,W)).1).R),Sl 74 6 p2 ((rnL (⟨bt,ba,cp⟩:Cf) (S,W)).length) c2 (fl eAt (rnL (⟨bt,ba,cp⟩:Cf) (S,W))),Sl 3 1 p27 ((dueB S W.now bt).length) c28 (fl eI (dueB S W.now bt)),Cl r10 [iV x0,iV x1,iV x2,iV x3,iV x4,iV x5,iV bt,iV ba,iV cp,uV x9] 24,R]:=(show Y.2=((rnS (⟨bt,ba,cp⟩:Cf) (S,W)).2) from (by rw[hn_]))▸h107
 exact en (.tuple #[.slice p2 i c2,iV 0]) [] ⟨_,_,rfl,⟨p2,c2,by rw[hll_],rfl⟩,(tk4 (sf3 (sf3 (sf3 (sf5 h108.a.t6)))))⟩
theorem drun_w(b n rb:Nat)(S:Ts)(W:Wst)(x0 x1 x2 x3 x4 x5 bt ba cp x9:Int)(hW:Wf n S)(hrun:cfgE (⟨bt,ba,cp⟩:Cf)=0→RunOk (⟨bt,ba,cp⟩:Cf) W.now (S,W) (dueB S W.now bt)):HT prog 35 [Value.pointer (some ⟨b,0,none⟩),Value.pointer (some ⟨rb,0,none⟩),Value.agg #[Value.int IntKind.i64 x0,Value.int IntKind.i64 x1,Value.int IntKind.i64 x2,Value.int IntKind.i64 x3,Value.int IntKind.i64 x4,Value.int IntKind.i64 x5,Value.int IntKind.i64 bt,Value.int IntKind.i64 ba,Value.int IntKind.i64 cp,Value.int IntKind.u32 x9]] [Zr b n S.A (allE S.E) S.R,WdR rb W] (fun v K=> ∃(p:Option Addr) (c:Nat),v=Value.tuple #[Value.slice p ((rnL (⟨bt,ba,cp⟩:Cf) (S,W)).length) c,Value.int IntKind.i64 (cfgE (⟨bt,ba,cp⟩:Cf))]∧K= [Zr b n (((rnS (⟨bt,ba,cp⟩:Cf) (S,W)).1).A) (allE ((rnS (⟨bt,ba,cp⟩:Cf) (S,W)).1).E) (((rnS (⟨bt,ba,cp⟩:Cf) (S,W)).1).R),WdR rb ((rnS (⟨bt,ba,cp⟩:Cf) (S,W)).2),Sl 74 6 p ((rnL (⟨bt,ba,cp⟩:Cf) (S,W)).length) c (fl eAt (rnL (⟨bt,ba,cp⟩:Cf) (S,W)))]):=by
 by_cases hc:cfgE (⟨bt,ba,cp⟩:Cf)=0
 · rw[hc]
   exact drun_ok b n rb S W x0 x1 x2 x3 x4 x5 bt ba cp x9 hW hc (hrun hc)
 · have h2:cfgE (⟨bt,ba,cp⟩:Cf)=2:=by
    unfold cfgE at hc ⊢
    split
    · rfl
    · rename_i h;exact absurd (if_neg h) hc
   unfold rnS rnL
   rw[if_neg hc,if_neg hc,h2]
   refine(drun_arg b n rb S W x0 x1 x2 x3 x4 x5 bt ba cp x9 hW hc).post fun v K hP=> ?_
   obtain⟨rfl,rfl⟩:=hP
   exact⟨_,⟨none,0,rfl,rfl⟩,fun g w F hs=>sat_rot (A:=Sl 74 6 none 0 0 (fl eAt [])::F) (B:= [Zr b n S.A (allE S.E) S.R,WdR rb W]) (sl_nil 74 6 (sat_rot (A:= [Zr b n S.A (allE S.E) S.R,WdR rb W]) (B:=F) hs))⟩
theorem d4e74_neq_t{n:Nat}{l:Fr}{o:Oper}{x y:Operand}(a0 a1 a2 a3 a4 a5 c0 c1 c2 c3 c4 c5:Int)(ho:o.op= .binOp .neq 74 x y 74)(hx:fe n l x= .agg #[.int .i64 a0,.int .i64 a1,.int .i64 a2,.int .u32 a3,.int .i64 a4,.int .i64 a5])(hy:fe n l y= .agg #[.int .i64 c0,.int .i64 c1,.int .i64 c2,.int .u32 c3,.int .i64 c4,.int .i64 c5])(h:a0=c0∧a1=c1∧a2=c2∧a3=c3∧a4=c4∧a5=c5)(w:World):(execOp (fe n l) o).run prog w= .ok (.value (.bool false)) w:=by
 obtain⟨rfl,rfl,rfl,rfl,rfl,rfl⟩:=h
 simp[execOp,ho,hx,hy,go_sem]
theorem dints_ht(p p3:Option Addr)(c c3:Nat)(D:List Int)(hl:D.length≤100000):HQ 93 [.slice p D.length c,.slice p3 D.length c3] [Sl 3 1 p D.length c (fl eI D),Sl 3 1 p3 D.length c3 (fl eI D)] (.bool true) [Sl 3 1 p D.length c (fl eI D),Sl 3 1 p3 D.length c3 (fl eI D)]:=by
 refine hiS func93 ntmps93 fun g w0 R h0=>go [.v 1 4 (qnF (D.length:Int) (D.length:Int))] ?_
 refine lpS (fun mz_ a w=> ∃k:Nat,∃lr:Fr,mz_=D.length-k∧(k≤D.length)∧a=mk 26 (([(0,.slice p D.length c),(1,.slice p3 D.length c3),(5,iV (k:Int))]:Fr)++lr)∧sat g w [Sl 3 1 p D.length c (fl eI D),Sl 3 1 p3 D.length c3 (fl eI D),R]) (D.length-0) ⟨0,_,rfl,om,(lvF [.k 0 (.slice p D.length c),.k 1 (.slice p3 D.length c3),.o 5 (oJ .i64 0 (0:Int))]),h0⟩ ?_
 rintro m11 a12 w13 ⟨k,lr10,rfl,hk_,rfl,h14⟩
 refine ga<|go [.s 4 3] ?_
 by_cases c15:(k:Int)<(D.length:Int)
 ·
  refine go [.v 4 3 (oT _ c15)]<|dw (fls [0,1,2,3,4,5,6,7,8] Tr.nil) h14 fun _ h17=> ?_
  obtain⟨b18,hp19⟩:=sl_ptr0 (j:=0) h17 rfl om
  refine go [.s 6 2]<|lw (.pointer (some ⟨b18,k,none⟩)) (fun _=>liP (Ot 17) (Ot 18) p b18 0 (k:Int) D.length c underlying37 1 k hp19 k) ?_
  obtain⟨x20,hx21⟩:=gX D k om
  obtain⟨b22,hp23⟩:=sl_ptr0 (j:=1) h17 rfl om
  refine go [.r 6 3 b18 k [iV x20] ⟨gvc 0 h17 rfl hp19 eI_ok 0 (iV x20) hx21 k,trivial⟩,.s 6 6]<|lw (.pointer (some ⟨b22,k,none⟩)) (fun _=>liP (Ot 21) (Ot 22) p3 b22 0 (k:Int) D.length c3 underlying37 1 k hp23 k)<|go [.r 6 7 b22 k [iV x20] ⟨gvc 1 h17 rfl hp23 eI_ok 0 (iV x20) hx21 k,trivial⟩,.v 6 8 (qnF x20 x20),.v 5 1 (oIr ((k:Int)+1))] ?_
  exact enN (D.length-(k+1)) ⟨(k+1),_,rfl,om,(lvF [.k 0 (.slice p D.length c),.k 1 (.slice p3 D.length c3),.o 5 (oJ .i64 ((k:Int)+1) (((k+1):Nat):Int))]),h17⟩
 refine go [.v 4 3 (oF _ c15)]<|up<|g0 ?_
 exact enR _ [] h14
theorem dsame_ht(p p3:Option Addr)(c c3:Nat)(D:List At)(hl:D.length≤100000):HQ 36 [.slice p D.length c,.slice p3 D.length c3] [Sl 74 6 p D.length c (fl eAt D),Sl 74 6 p3 D.length c3 (fl eAt D)] (.bool true) [Sl 74 6 p D.length c (fl eAt D),Sl 74 6 p3 D.length c3 (fl eAt D)]:=by
 refine hiS func36 ntmps36 fun g w0 R h0=>go [.v 1 4 (qnF (D.length:Int) (D.length:Int))] ?_
 refine lpS (fun mz_ a w=> ∃k:Nat,∃lr:Fr,mz_=D.length-k∧(k≤D.length)∧a=mk 26 (([(0,.slice p D.length c),(1,.slice p3 D.length c3),(5,iV (k:Int))]:Fr)++lr)∧sat g w [Sl 74 6 p D.length c (fl eAt D),Sl 74 6 p3 D.length c3 (fl eAt D),R]) (D.length-0) ⟨0,_,rfl,om,(lvF [.k 0 (.slice p D.length c),.k 1 (.slice p3 D.length c3),.o 5 (oJ .i64 0 (0:Int))]),h0⟩ ?_
 rintro m11 a12 w13 ⟨k,lr10,rfl,hk_,rfl,h14⟩
 refine ga<|go [.s 4 3] ?_
 by_cases c15:(k:Int)<(D.length:Int)
 ·
  refine go [.v 4 3 (oT _ c15)]<|dw (fls [0,1,2,3,4,5,6,7,8] Tr.nil) h14 fun _ h17=> ?_
  obtain⟨b18,hp19⟩:=sl_ptr0 (j:=0) h17 rfl om
  refine go [.s 6 2]<|lw (.pointer (some ⟨b18,k*6,none⟩)) (fun _=>liP (Ot 17) (Ot 18) p b18 0 (k:Int) D.length c underlying41 6 k hp19 (k*6)) ?_
  obtain⟨x20,hx21⟩:=gX D k om
  obtain⟨b22,hp23⟩:=sl_ptr0 (j:=1) h17 rfl om
  refine go [.r 6 3 b18 (k*6) [iV x20.at_,iV x20.out.1,iV x20.out.2.1,uV x20.out.2.2,iV x20.why,iV x20.ans] ⟨gvc 0 h17 rfl hp19 eAt_ok 0 (iV x20.at_) hx21 (k*6),gvc 0 h17 rfl hp19 eAt_ok 1 (iV x20.out.1) hx21 (k*6+1),gvc 0 h17 rfl hp19 eAt_ok 2 (iV x20.out.2.1) hx21 (k*6+2),gvc 0 h17 rfl hp19 eAt_ok 3 (uV x20.out.2.2) hx21 (k*6+3),gvc 0 h17 rfl hp19 eAt_ok 4 (iV x20.why) hx21 (k*6+4),gvc 0 h17 rfl hp19 eAt_ok 5 (iV x20.ans) hx21 (k*6+5),trivial⟩,.s 6 6]<|lw (.pointer (some ⟨b22,k*6,none⟩)) (fun _=>liP (Ot 21) (Ot 22) p3 b22 0 (k:Int) D.length c3 underlying41 6 k hp23 (k*6))<|go [.r 6 7 b22 (k*6) [iV x20.at_,iV x20.out.1,iV x20.out.2.1,uV x20.out.2.2,iV x20.why,iV x20.ans] ⟨gvc 1 h17 rfl hp23 eAt_ok 0 (iV x20.at_) hx21 (k*6),gvc 1 h17 rfl hp23 eAt_ok 1 (iV x20.out.1) hx21 (k*6+1),gvc 1 h17 rfl hp23 eAt_ok 2 (iV x20.out.2.1) hx21 (k*6+2),gvc 1 h17 rfl hp23 eAt_ok 3 (uV x20.out.2.2) hx21 (k*6+3),gvc 1 h17 rfl hp23 eAt_ok 4 (iV x20.why) hx21 (k*6+4),gvc 1 h17 rfl hp23 eAt_ok 5 (iV x20.ans) hx21 (k*6+5),trivial⟩,.s 6 8]<|lw (.bool false) (fun _=>d4e74_neq_t (x:=Ot 20) (y:=Ot 24) x20.at_ x20.out.1 x20.out.2.1 x20.out.2.2 x20.why x20.ans x20.at_ x20.out.1 x20.out.2.1 x20.out.2.2 x20.why x20.ans kr kr kr ⟨rfl,rfl,rfl,rfl,rfl,rfl⟩ _)<|go [.v 5 1 (oIr ((k:Int)+1))] ?_
  exact enN (D.length-(k+1)) ⟨(k+1),_,rfl,om,(lvF [.k 0 (.slice p D.length c),.k 1 (.slice p3 D.length c3),.o 5 (oJ .i64 ((k:Int)+1) (((k+1):Nat):Int))]),h17⟩
 refine go [.v 4 3 (oF _ c15)]<|up<|g0 ?_
 exact enR _ [] h14
theorem begins_ht:HT prog 25 [] [] (fun v K=> ∃b rb:Nat,v= .agg #[pV b,pV rb]∧K= [Zr b 64 ts0.A (allE ts0.E) ts0.R,WdR rb (wnew 1)]):=by
 refine hiS func25 ntmps25 fun g w0 R h0=>g0<|nP 87 [.pointer none,.pointer none] h0 (fun _ _ h12=> ?_)
 refine g0<|cP call65 (by have h_:=zrnew_ok 64 64 1 om om om om;rw[←allE_nil] at h_;exact h_) h12 ?_
 rintro v K _ (⟨b13,rfl,rfl⟩) h15
 have h16:=ap1 h15
 refine g0<|cP call66 (r12new_y 1 om) h16 ?_
 rintro v K _ (⟨b17,rfl,rfl⟩) h19
 have h21:=(ap1 h19).b.t4
 refine g0<|sA [pV b13,pV b17] h21 fun _ h23=>g0 ?_
 exact en (.agg #[pV b13,pV b17]) [rd 0 0 0 0 2 h23] ⟨_,_,rfl,⟨b13,b17,rfl,rfl⟩,(tk3 (sf2 (sf2 (sf3 h23.a.b.t4))))⟩
theorem dopen_ht(b rb:Nat)(S:Ts)(W:Wst)(hW:Wf 64 S)(n at_:Int)(hn:0≤n∧n≤65535)(ha:0≤at_∧at_≤1000):HQ 27 [.agg #[pV b,pV rb],.int .u16 n,iV at_] [Zr b 64 S.A (allE S.E) S.R,WdR rb W] (.tuple #[]) [Zr b 64 (((opnP (S,W) n at_).1).A) (allE ((opnP (S,W) n at_).1).E) (((opnP (S,W) n at_).1).R),WdR rb ((opnP (S,W) n at_).2)]:=by
 refine hiS func27 ntmps27 fun g w0 R h0=> ?_
 have hk10:=(rw_get (j:=1) h0 rfl).1;have hk10a:=hk10.nl;have hk10b:=hk10.nh
 have hrl_:=hW.rl
 refine g0<|nP 87 [pV b,pV rb] h0 (fun r11 _ h13=> ?_)
 refine g0<|cl0 call67 (what_ht n om) h13 fun _ h15=> ?_
 have hq16:=acqO_bd (rw_get (j:=2) h15 rfl).1 (whK n) (whX n);have hq16a:=hq16.1;have hq16b:=hq16.2
 have h17:=h15.b.t4
 refine go [rd 2 1 0 1 1 h15]<|cl1 call70 (racq_ht rb W (whK n) (whX n)) h17 fun _ h19=>g0<|nP 72 [iV 0,iV 0,uV 0] h19 (fun r20 _ h22=> ?_)
 refine sA [iV ((acqO W (whK n) (whX n)).1),iV ((acqO W (whK n) (whX n)).2.1),uV ((acqO W (whK n) (whX n)).2.2)] h22 fun w23 h24=>go [.s 3 1] ?_
 by_cases c25:(acqE W (whK n) (whX n))=0
 ·
  have hb26:=rem_bd (a:=at_) (b:=256) om om
  refine go [.v 3 1 (qeT _ _ c25),rd 4 1 2 0 1 h24,rd 4 2 0 0 3 h24,.s 4 4]<|lwP (iV (at_%256)) (law_rem (t:=3) (x:=Ot 28) (y:=(Operand.const (iV 256))) kr at_ 256 kr kr om (at_%256) (rem_ex om) _) ?_
  have hb27:=quo_bd (a:=at_) (b:=256) om om
  refine go [.s 4 6]<|lwP (iV (at_/256)) (law_quo (t:=3) (x:=Ot 30) (y:=(Operand.const (iV 256))) kr at_ 256 kr kr om (at_/256) (quo_i64 om om om) _) ?_
  have h28:=h24.c.t5
  refine go [.v 4 7 (oUr (at_/256)),.v 4 8 (oU (1+(at_/256)) ((at_/256)+1))]<|cl1 call71 (zopn_ht b 64 S hW ((acqO W (whK n) (whX n)).1) ((acqO W (whK n) (whX n)).2.1) ((acqO W (whK n) (whX n)).2.2) [116] (at_%256) ((at_/256)+1) om om (by first|omega|decide) om) h28 fun w29 h30=>g0 ?_
  have h31:sat g _ (Zr b 64 (((opnP (S,W) n at_).1).A) (allE ((opnP (S,W) n at_).1).E) (((opnP (S,W) n at_).1).R)::_):=sat_imp h30 (fun _ hh_=>by rw[show (opnS S ((acqO W (whK n) (whX n)).1,(acqO W (whK n) (whX n)).2.1,(acqO W (whK n) (whX n)).2.2) [116] ((at_%256),(at_/256)+1))=((opnP (S,W) n at_).1) from (by unfold opnP;rw[if_pos om])] at hh_;exact hh_)
  have h33:sat g _ (WdR rb ((opnP (S,W) n at_).2)::_):=sat_imp h31.b.t5 (fun _ hh_=>by rw[show (acqS W (whK n) (whX n))=((opnP (S,W) n at_).2) from rfl] at hh_;exact hh_)
  exact enR _ [] (tk3 (sf2 (sf2 (sf4 h33.a.t5))))
 refine go [.v 3 1 (qeF _ _ c25)] ?_
 have h37:sat g _ (Zr b 64 (((opnP (S,W) n at_).1).A) (allE ((opnP (S,W) n at_).1).E) (((opnP (S,W) n at_).1).R)::_):=sat_imp h24.c.t5 (fun _ hh_=>by rw[show S=((opnP (S,W) n at_).1) from (by unfold opnP;rw[if_neg om])] at hh_;exact hh_)
 have h39:sat g _ (WdR rb ((opnP (S,W) n at_).2)::_):=sat_imp h37.b.t5 (fun _ hh_=>by rw[show (acqS W (whK n) (whX n))=((opnP (S,W) n at_).2) from rfl] at hh_;exact hh_)
 exact enR _ [] (tk3 (sf2 (sf2 (sf4 h39.a.t5))))
theorem dshut_ht(b rb:Nat)(S:Ts)(W:Wst)(hW:Wf 64 S)(n:Int)(hn:0≤n∧n≤65535):HQ 29 [.agg #[pV b,pV rb],.int .u16 n] [Zr b 64 S.A (allE S.E) S.R,WdR rb W] (.tuple #[]) [Zr b 64 (((shuP (S,W) n).1).A) (allE ((shuP (S,W) n).1).E) (((shuP (S,W) n).1).R),WdR rb ((shuP (S,W) n).2)]:=by
 refine hiS func29 ntmps29 fun g w0 R h0=> ?_
 have hk10:=(rw_get (j:=1) h0 rfl).1;have hk10a:=hk10.nl;have hk10b:=hk10.nh
 have hrl_:=hW.rl
 refine g0<|nP 87 [pV b,pV rb] h0 (fun r11 _ h13=> ?_)
 have h14:=h13.a.t4
 refine go [rd 1 1 0 0 1 h13]<|cl1 call72 (zlen_ht b 64 S) h14 fun w15 h16=> ?_
 by_cases c17:(S.R.length:Int)=0
 ·
  refine go [.v 1 3 (qeT _ _ c17)] ?_
  have h18:sat g _ (Zr b 64 (((shuP (S,W) n).1).A) (allE ((shuP (S,W) n).1).E) (((shuP (S,W) n).1).R)::_):=sat_imp h16 (fun _ hh_=>by rw[show S=((shuP (S,W) n).1) from (by unfold shuP shK;simp only[];rw[if_pos om])] at hh_;exact hh_)
  have h20:sat g _ (WdR rb ((shuP (S,W) n).2)::_):=sat_imp h18.b.t4 (fun _ hh_=>by rw[show W=((shuP (S,W) n).2) from rfl] at hh_;exact hh_)
  exact enR _ [] (tk3 (sf2 (sf2 (sf3 h20.a.t4))))
 refine go [.v 1 3 (qeF _ _ c17),.v 2 1 (oIr n),rd 2 3 1 0 1 h16]<|cl1 call72 (zlen_ht b 64 S) h16 fun _ h24=> ?_
 have hb25:=rem_bd (a:=n) (b:=(S.R.length:Int)) om om
 refine lwP (iV (n%(S.R.length:Int))) (law_rem (t:=3) (x:=Ot 14) (y:=Ot 17) kr n (S.R.length:Int) kr kr om (n%(S.R.length:Int)) (rem_ex om) _) ?_
 have hg26n:nE S ((n%(S.R.length:Int))+1)=0:=if_pos ⟨by omega,by omega⟩;have hg26:resR (getR S ((n%(S.R.length:Int))+1))=0∧0≤(getR S ((n%(S.R.length:Int))+1)).out.2.2∧(getR S ((n%(S.R.length:Int))+1)).out.2.2≤4294967295∧(getR S ((n%(S.R.length:Int))+1)).tag.length≤96:=wf_get hW hg26n;have hg26a:=hg26.2.1;have hg26b:=hg26.2.2.1;have hg26c:=hg26.2.2.2
 refine go [.v 2 6 (oI (1+(n%(S.R.length:Int))) ((n%(S.R.length:Int))+1)),rd 3 1 1 0 1 h24]<|cl1 call73 (by have h_:=zget_ht b 64 S ((n%(S.R.length:Int))+1);rw[hg26n] at h_;exact h_) h24 fun _ h28=> ?_
 refine g0<|nP 149 [iV 0,iV 0,uV 0,iV 0,iV 0,iV 0,iV 0,.string (St [])] h28 (fun r29 _ h31=> ?_)
 refine sA [iV ((getR S ((n%(S.R.length:Int))+1)).out.1),iV ((getR S ((n%(S.R.length:Int))+1)).out.2.1),uV ((getR S ((n%(S.R.length:Int))+1)).out.2.2),iV ((getR S ((n%(S.R.length:Int))+1)).st),iV ((getR S ((n%(S.R.length:Int))+1)).why),iV ((getR S ((n%(S.R.length:Int))+1)).tr),iV ((getR S ((n%(S.R.length:Int))+1)).nx),.string (St ((getR S ((n%(S.R.length:Int))+1)).tag))] h31 fun _ h33=>g0<|dw (fls [0,1,2,3,4,5,6,7] (Tr.an2 8 (Tr.an2 9 (fls [10,11,12] (Tr.an 13 (Tr.an 14 (Tr.fl 15 Tr.nil)))) 13 (Tr.an 9 (fls [10,11,12] (Tr.an 14 (Tr.fl 15 Tr.nil))))) 13 (Tr.an 8 (Tr.an 9 (fls [10,11,12] (Tr.an 14 (Tr.fl 15 Tr.nil))))))) h33 fun _ h35=> ?_
 have hb36:=quo_bd (a:=n) (b:=7) om om
 refine go [rd 4 0 0 0 8 h35,.s 4 2]<|lw (.int .u16 (n/7)) (fun _=>law_quo (t:=78) (x:=Ot 29) (y:=(Operand.const (.int .u16 7))) kr n 7 kr kr om (n/7) (quo_u16 om om om) _) ?_
 have hb37:=rem_bd (a:=(n/7)) (b:=3) om om
 refine go [.v 4 3 (oIr (n/7)),.s 4 4]<|lw (iV ((n/7)%3)) (fun _=>law_rem (t:=3) (x:=Ot 31) (y:=(Operand.const (iV 3))) kr (n/7) 3 kr kr om ((n/7)%3) (rem_ex om) _)<|go [.v 4 5 (oI (1+((n/7)%3)) ((n/7)%3+1)),rd 4 7 2 1 1 h35] ?_
 refine br2 ?_ ?_
 ·
  refine cw1 call75 (r12now_ht rb W) h35.c.t5 fun _ h40=>⟨kd [rd 0 0 1 0 8 h40],?_⟩
  refine br2 ?_ ?_
  ·
   by_cases c41:(getR S ((n%(S.R.length:Int))+1)).st=1
   ·
    refine cw0 call74 (dclo_ok (getR S ((n%(S.R.length:Int))+1)) hg26.1 om om ((n/7)%3+1) W.now om om om) h40 fun _ h43=>⟨kd [],?_⟩
    refine g0<|nG (fun q_=>pV q_) 149 [iV 0,iV 0,uV 0,iV 0,iV 0,iV 0,iV 0,.string (St [])] h43 (fun r44 _ h46=>⟨kd [],?_⟩)
    refine sB [iV ((getR S ((n%(S.R.length:Int))+1)).out.1),iV ((getR S ((n%(S.R.length:Int))+1)).out.2.1),uV ((getR S ((n%(S.R.length:Int))+1)).out.2.2),iV 2,iV ((n/7)%3+1),iV ((getR S ((n%(S.R.length:Int))+1)).tr),iV W.now,.string (St ((getR S ((n%(S.R.length:Int))+1)).tag))] h46 fun _ h48=>⟨kd [],?_⟩
    have h51:=h48.c.t6
    refine go [rd 6 1 4 0 1 h48]<|cP call76 (zexp_ht b 64 S hW ((n%(S.R.length:Int))+1)) h51 ?_
    rintro v K _ (⟨p49,c50,rfl,rfl⟩) h53
    have h54:=ap2 h53
    refine go [rd 7 1 5 0 1 h54,rd 7 3 2 0 8 h54]<|cl1 call77 (zset_ht b 64 (expS S ((n%(S.R.length:Int))+1)) (wf_exp hW _) ((n%(S.R.length:Int))+1) ((getR S ((n%(S.R.length:Int))+1)).out.1) ((getR S ((n%(S.R.length:Int))+1)).out.2.1) ((getR S ((n%(S.R.length:Int))+1)).out.2.2) 2 ((n/7)%3+1) ((getR S ((n%(S.R.length:Int))+1)).tr) W.now ((getR S ((n%(S.R.length:Int))+1)).tag) om om (by first|omega|decide)) h54 fun w55 h56=>g0 ?_
    have h57:sat g _ (Zr b 64 (((shuP (S,W) n).1).A) (allE ((shuP (S,W) n).1).E) (((shuP (S,W) n).1).R)::_):=sat_imp h56 (fun _ hh_=>by rw[show (setS (expS S ((n%(S.R.length:Int))+1)) ((n%(S.R.length:Int))+1) ⟨((getR S ((n%(S.R.length:Int))+1)).out.1,(getR S ((n%(S.R.length:Int))+1)).out.2.1,(getR S ((n%(S.R.length:Int))+1)).out.2.2),2,(n/7)%3+1,(getR S ((n%(S.R.length:Int))+1)).tr,W.now,(getR S ((n%(S.R.length:Int))+1)).tag⟩)=((shuP (S,W) n).1) from (by unfold shuP shK;simp only[];rw[if_neg om,if_pos om];rfl)] at hh_;exact hh_)
    have h59:sat g _ (WdR rb ((shuP (S,W) n).2)::_):=sat_imp h57.c.t7 (fun _ hh_=>by rw[show W=((shuP (S,W) n).2) from rfl] at hh_;exact hh_)
    exact enR _ [] (tk3 (sf2 (sf2 (sf6 h59.a.t7))))
   refine cw0 call74 (dclo_no (getR S ((n%(S.R.length:Int))+1)) hg26.1 om om ((n/7)%3+1) W.now om om om) h40 fun _ h63=>⟨kd [],?_⟩
   refine g0<|nG (fun q_=>pV q_) 149 [iV 0,iV 0,uV 0,iV 0,iV 0,iV 0,iV 0,.string (St [])] h63 (fun r64 _ h66=>⟨kd [],?_⟩)
   refine sB [iV 0,iV 0,uV 0,iV 0,iV 0,iV 0,iV 0,.string (St [])] h66 fun w67 h68=>⟨kd [],?_⟩
   refine g0 ?_
   have h70:sat g _ (Zr b 64 (((shuP (S,W) n).1).A) (allE ((shuP (S,W) n).1).E) (((shuP (S,W) n).1).R)::_):=sat_imp h68.c.t6 (fun _ hh_=>by rw[show S=((shuP (S,W) n).1) from (by unfold shuP shK;simp only[];rw[if_neg om,if_neg om])] at hh_;exact hh_)
   have h72:sat g _ (WdR rb ((shuP (S,W) n).2)::_):=sat_imp h70.b.t6 (fun _ hh_=>by rw[show W=((shuP (S,W) n).2) from rfl] at hh_;exact hh_)
   exact enR _ [] (tk3 (sf2 (sf2 (sf5 h72.a.t6))))
  refine nG (fun q_=>pV q_) 149 [iV 0,iV 0,uV 0,iV 0,iV 0,iV 0,iV 0,.string (St [])] h40 (fun r75 _ h77=>⟨kd [rd 0 0 2 0 8 h77],?_⟩)
  by_cases c78:(getR S ((n%(S.R.length:Int))+1)).st=1
  ·
   refine cw0 call74 (dclo_ok (getR S ((n%(S.R.length:Int))+1)) hg26.1 om om ((n/7)%3+1) W.now om om om) h77 fun _ h80=>⟨kd [],?_⟩
   refine g0<|sB [iV ((getR S ((n%(S.R.length:Int))+1)).out.1),iV ((getR S ((n%(S.R.length:Int))+1)).out.2.1),uV ((getR S ((n%(S.R.length:Int))+1)).out.2.2),iV 2,iV ((n/7)%3+1),iV ((getR S ((n%(S.R.length:Int))+1)).tr),iV W.now,.string (St ((getR S ((n%(S.R.length:Int))+1)).tag))] h80 fun _ h82=>⟨kd [],?_⟩
   have h85:=h82.c.t6
   refine go [rd 6 1 4 0 1 h82]<|cP call76 (zexp_ht b 64 S hW ((n%(S.R.length:Int))+1)) h85 ?_
   rintro v K _ (⟨p83,c84,rfl,rfl⟩) h87
   have h88:=ap2 h87
   refine go [rd 7 1 5 0 1 h88,rd 7 3 2 0 8 h88]<|cl1 call77 (zset_ht b 64 (expS S ((n%(S.R.length:Int))+1)) (wf_exp hW _) ((n%(S.R.length:Int))+1) ((getR S ((n%(S.R.length:Int))+1)).out.1) ((getR S ((n%(S.R.length:Int))+1)).out.2.1) ((getR S ((n%(S.R.length:Int))+1)).out.2.2) 2 ((n/7)%3+1) ((getR S ((n%(S.R.length:Int))+1)).tr) W.now ((getR S ((n%(S.R.length:Int))+1)).tag) om om (by first|omega|decide)) h88 fun w89 h90=>g0 ?_
   have h91:sat g _ (Zr b 64 (((shuP (S,W) n).1).A) (allE ((shuP (S,W) n).1).E) (((shuP (S,W) n).1).R)::_):=sat_imp h90 (fun _ hh_=>by rw[show (setS (expS S ((n%(S.R.length:Int))+1)) ((n%(S.R.length:Int))+1) ⟨((getR S ((n%(S.R.length:Int))+1)).out.1,(getR S ((n%(S.R.length:Int))+1)).out.2.1,(getR S ((n%(S.R.length:Int))+1)).out.2.2),2,(n/7)%3+1,(getR S ((n%(S.R.length:Int))+1)).tr,W.now,(getR S ((n%(S.R.length:Int))+1)).tag⟩)=((shuP (S,W) n).1) from (by unfold shuP shK;simp only[];rw[if_neg om,if_pos om];rfl)] at hh_;exact hh_)
   have h93:sat g _ (WdR rb ((shuP (S,W) n).2)::_):=sat_imp h91.c.t7 (fun _ hh_=>by rw[show W=((shuP (S,W) n).2) from rfl] at hh_;exact hh_)
   exact enR _ [] (tk3 (sf2 (sf2 (sf6 h93.a.t7))))
  refine cw0 call74 (dclo_no (getR S ((n%(S.R.length:Int))+1)) hg26.1 om om ((n/7)%3+1) W.now om om om) h77 fun _ h97=>⟨kd [],?_⟩
  refine g0<|sB [iV 0,iV 0,uV 0,iV 0,iV 0,iV 0,iV 0,.string (St [])] h97 fun w98 h99=>⟨kd [],?_⟩
  refine g0 ?_
  have h101:sat g _ (Zr b 64 (((shuP (S,W) n).1).A) (allE ((shuP (S,W) n).1).E) (((shuP (S,W) n).1).R)::_):=sat_imp h99.c.t6 (fun _ hh_=>by rw[show S=((shuP (S,W) n).1) from (by unfold shuP shK;simp only[];rw[if_neg om,if_neg om])] at hh_;exact hh_)
  have h103:sat g _ (WdR rb ((shuP (S,W) n).2)::_):=sat_imp h101.b.t6 (fun _ hh_=>by rw[show W=((shuP (S,W) n).2) from rfl] at hh_;exact hh_)
  exact enR _ [] (tk3 (sf2 (sf2 (sf5 h103.a.t6))))
 refine nG (fun q_=>pV q_) 149 [iV 0,iV 0,uV 0,iV 0,iV 0,iV 0,iV 0,.string (St [])] h35 (fun r106 _ h108=>⟨kd [rd 0 7 3 1 1 h108,rd 0 0 1 0 8 h108],?_⟩)
 refine cw1 call75 (r12now_ht rb W) h108.d.t6 fun _ h111=>⟨kd [rd 0 0 2 0 8 h111],?_⟩
 by_cases c112:(getR S ((n%(S.R.length:Int))+1)).st=1
 ·
  refine cw0 call74 (dclo_ok (getR S ((n%(S.R.length:Int))+1)) hg26.1 om om ((n/7)%3+1) W.now om om om) h111 fun _ h114=>⟨kd [],?_⟩
  have h115:=h114.a.t6
  refine g0<|sB [iV ((getR S ((n%(S.R.length:Int))+1)).out.1),iV ((getR S ((n%(S.R.length:Int))+1)).out.2.1),uV ((getR S ((n%(S.R.length:Int))+1)).out.2.2),iV 2,iV ((n/7)%3+1),iV ((getR S ((n%(S.R.length:Int))+1)).tr),iV W.now,.string (St ((getR S ((n%(S.R.length:Int))+1)).tag))] h115 fun _ h117=>⟨kd [],?_⟩
  have h120:=h117.c.t6
  refine go [rd 6 1 4 0 1 h117]<|cP call76 (zexp_ht b 64 S hW ((n%(S.R.length:Int))+1)) h120 ?_
  rintro v K _ (⟨p118,c119,rfl,rfl⟩) h122
  have h123:=ap2 h122
  refine go [rd 7 1 5 0 1 h123,rd 7 3 2 0 8 h123]<|cl1 call77 (zset_ht b 64 (expS S ((n%(S.R.length:Int))+1)) (wf_exp hW _) ((n%(S.R.length:Int))+1) ((getR S ((n%(S.R.length:Int))+1)).out.1) ((getR S ((n%(S.R.length:Int))+1)).out.2.1) ((getR S ((n%(S.R.length:Int))+1)).out.2.2) 2 ((n/7)%3+1) ((getR S ((n%(S.R.length:Int))+1)).tr) W.now ((getR S ((n%(S.R.length:Int))+1)).tag) om om (by first|omega|decide)) h123 fun w124 h125=>g0 ?_
  have h126:sat g _ (Zr b 64 (((shuP (S,W) n).1).A) (allE ((shuP (S,W) n).1).E) (((shuP (S,W) n).1).R)::_):=sat_imp h125 (fun _ hh_=>by rw[show (setS (expS S ((n%(S.R.length:Int))+1)) ((n%(S.R.length:Int))+1) ⟨((getR S ((n%(S.R.length:Int))+1)).out.1,(getR S ((n%(S.R.length:Int))+1)).out.2.1,(getR S ((n%(S.R.length:Int))+1)).out.2.2),2,(n/7)%3+1,(getR S ((n%(S.R.length:Int))+1)).tr,W.now,(getR S ((n%(S.R.length:Int))+1)).tag⟩)=((shuP (S,W) n).1) from (by unfold shuP shK;simp only[];rw[if_neg om,if_pos om];rfl)] at hh_;exact hh_)
  have h128:sat g _ (WdR rb ((shuP (S,W) n).2)::_):=sat_imp h126.c.t7 (fun _ hh_=>by rw[show W=((shuP (S,W) n).2) from rfl] at hh_;exact hh_)
  exact enR _ [] (tk3 (sf2 (sf2 (sf6 h128.a.t7))))
 refine cw0 call74 (dclo_no (getR S ((n%(S.R.length:Int))+1)) hg26.1 om om ((n/7)%3+1) W.now om om om) h111 fun _ h132=>⟨kd [],?_⟩
 have h133:=h132.a.t6
 refine g0<|sB [iV 0,iV 0,uV 0,iV 0,iV 0,iV 0,iV 0,.string (St [])] h133 fun w134 h135=>⟨kd [],?_⟩
 refine g0 ?_
 have h137:sat g _ (Zr b 64 (((shuP (S,W) n).1).A) (allE ((shuP (S,W) n).1).E) (((shuP (S,W) n).1).R)::_):=sat_imp h135.c.t6 (fun _ hh_=>by rw[show S=((shuP (S,W) n).1) from (by unfold shuP shK;simp only[];rw[if_neg om,if_neg om])] at hh_;exact hh_)
 have h139:sat g _ (WdR rb ((shuP (S,W) n).2)::_):=sat_imp h137.b.t6 (fun _ hh_=>by rw[show W=((shuP (S,W) n).2) from rfl] at hh_;exact hh_)
 exact enR _ [] (tk3 (sf2 (sf2 (sf5 h139.a.t6))))
theorem due_u(b m0:Nat)(S:Ts)(t mo:Int):HT prog 11 [Value.pointer (some ⟨b,0,none⟩),Value.int IntKind.i64 t,Value.int IntKind.i64 mo] [TW b m0 S] (fun v K=> ∃(p:Option Addr) (c:Nat),v=Value.tuple #[Value.slice p ((dueL S t mo).length) c,Value.int IntKind.i64 (dueE t mo)]∧K= [TW b m0 S,Sl 3 1 p ((dueL S t mo).length) c (fl eI (dueL S t mo))]):=by
 by_cases h:t<0∨1099511627776<t∨mo<0
 · unfold dueL
   rw[show dueE t mo=2 from if_pos h,if_neg dc]
   refine(due_arg b m0 S t mo h).post fun v K hP=> ?_
   obtain⟨rfl,rfl⟩:=hP
   exact⟨_,⟨none,0,rfl,rfl⟩,fun g w F hs=>sat_rot (A:=Sl 3 1 none 0 0 (fl eI [])::F) (B:= [TW b m0 S]) (sl_nil 3 1 (sat_rot (A:= [TW b m0 S]) (B:=F) hs))⟩
 · unfold dueL
   rw[show dueE t mo=0 from if_neg h,if_pos rfl]
   exact due_w b m0 S t mo om
theorem ddue_u(b m0:Nat)(S:Ts)(hW:Wf m0 S)(t mo:Int):HT prog 86 [Value.pointer (some ⟨b,0,none⟩),Value.int IntKind.i64 t,Value.int IntKind.i64 mo] [Zr b m0 S.A (allE S.E) S.R] (fun v K=> ∃(p:Option Addr) (c:Nat),v=Value.tuple #[Value.slice p ((dueL S t mo).length) c,Value.int IntKind.i64 (dueE t mo)]∧K= [Zr b m0 S.A (allE S.E) S.R,Sl 3 1 p ((dueL S t mo).length) c (fl eI (dueL S t mo))]):=by
 by_cases h:t<0∨1099511627776<t∨mo<0
 · unfold dueL
   rw[show dueE t mo=2 from if_pos h,if_neg dc]
   refine(ddue_arg b m0 S t mo h).post fun v K hP=> ?_
   obtain⟨rfl,rfl⟩:=hP
   exact⟨_,⟨none,0,rfl,rfl⟩,fun g w F hs=>sat_rot (A:=Sl 3 1 none 0 0 (fl eI [])::F) (B:= [Zr b m0 S.A (allE S.E) S.R]) (sl_nil 3 1 (sat_rot (A:= [Zr b m0 S.A (allE S.E) S.R]) (B:=F) hs))⟩
 · unfold dueL
   rw[show dueE t mo=0 from if_neg h,if_pos rfl]
   exact ddue_w b m0 S hW t mo om
theorem d5e72_neq_t{n:Nat}{l:Fr}{o:Oper}{x y:Operand}(a0 a1 a2 c0 c1 c2:Int)(ho:o.op= .binOp .neq 72 x y 72)(hx:fe n l x= .agg #[.int .i64 a0,.int .i64 a1,.int .u32 a2])(hy:fe n l y= .agg #[.int .i64 c0,.int .i64 c1,.int .u32 c2])(h:a0=c0∧a1=c1∧a2=c2)(w:World):(execOp (fe n l) o).run prog w= .ok (.value (.bool false)) w:=by
 obtain⟨rfl,rfl,rfl⟩:=h
 simp[execOp,ho,hx,hy,go_sem]
theorem alike_ht(b wb zb rb:Nat)(S:Ts)(W:Wst)(t mo:Int):HQ 37 [.agg #[pV b,pV wb],.agg #[pV zb,pV rb],iV t,iV mo] [TW b 64 S,Wd wb W,Zr zb 64 S.A (allE S.E) S.R,WdR rb W] (.bool true) [TW b 64 S,Wd wb W,Zr zb 64 S.A (allE S.E) S.R,WdR rb W]:=by
 refine hiS func37 ntmps37 fun g w0 R h0=> ?_
 have hk10:=(rw_get (j:=3) h0 rfl).1;have hk10a:=hk10.nl;have hk10b:=hk10.nh
 have hk11:=tw_ok (j:=0) h0 rfl;have hk11a:=hk11.rl
 refine g0<|nP 28 [pV b,pV wb] h0 (fun r12 _ h14=> ?_)
 refine nP 87 [pV zb,pV rb] h14 (fun r15 _ h17=> ?_)
 refine g0<|dw (fls [0,1,3,4] (Tr.an 2 (Tr.an 5 (fls [6,7,8,9,11,12] (Tr.an 10 (Tr.an 13 (fls [14,15] Tr.nil))))))) h17 fun _ h19=> ?_
 have h20:=h19.b.t7
 refine go [rd 1 1 1 0 1 h19,rd 1 4 0 0 1 h19]<|cw1 call64 (tlen_w b 64 S) h20 fun _ h22=>⟨kd [rd 0 4 1 0 1 h22],?_⟩
 refine cw1 call72 (zlen_ht zb 64 S) h22.d.t7 fun _ h25=>⟨kd [],?_⟩
 have h26:=h25.d.t7
 refine go [.v 1 6 (qnF (S.R.length:Int) (S.R.length:Int)),rd 1 9 3 1 1 h25,rd 1 12 2 1 1 h25]<|cw1 call38 (wnow_ht wb W) h26 fun _ h28=>⟨kd [rd 0 12 3 1 1 h28],?_⟩
 refine cw1 call75 (r12now_ht rb W) h28.e.t7 fun _ h31=>⟨kd [],?_⟩
 refine go [.v 1 14 (qnF W.now W.now)] ?_
 refine lpS (fun mz_ a w=> ∃i:Nat,∃lr:Fr,mz_=S.R.length-i∧(i≤S.R.length)∧a=mk 199 (([(2,iV t),(3,iV mo),(4,pV r12),(5,pV r15),(9,iV ((i:Int)+1))]:Fr)++lr)∧sat g w [WdR rb W,Wd wb W,Zr zb 64 S.A (allE S.E) S.R,TW b 64 S,Cl r15 [pV zb,pV rb] 87,Cl r12 [pV b,pV wb] 28,R]) (S.R.length-0) ⟨0,_,rfl,(Nat.zero_le _),(lvF [.k 2 (iV t),.k 3 (iV mo),.k 4 (pV r12),.k 5 (pV r15),.o 9 (oJ .i64 1 ((0:Int)+1))]),h31⟩ ?_
 rintro m33 a34 w35 ⟨i,lr32,rfl,hi_,rfl,h36⟩
 refine ga ?_
 have h37:=h36.b.t7
 refine go [rd 4 2 4 0 1 h36]<|cl1 call72 (zlen_ht zb 64 S) h37 fun _ h39=> ?_
 by_cases c40:(i:Int)+1≤(S.R.length:Int)
 ·
  have hg41n:nE S ((i:Int)+1)=0:=if_pos ⟨by omega,by omega⟩;have hg41:resR (getR S ((i:Int)+1))=0∧0≤(getR S ((i:Int)+1)).out.2.2∧(getR S ((i:Int)+1)).out.2.2≤4294967295∧(getR S ((i:Int)+1)).tag.length≤96:=wf_get (tw_ok (j:=3) h39 rfl) hg41n;have hg41a:=hg41.2.1;have hg41b:=hg41.2.2.1;have hg41c:=hg41.2.2.2
  have h42:=h39.c.t7
  refine go [.v 4 4 (oT _ c40),rd 6 1 5 0 1 h39]<|cl1 call45 (by have h_:=tget_w b 64 S ((i:Int)+1);rw[hg41n] at h_;exact h_) h42 fun _ h44=> ?_
  refine g0<|nP 82 [iV 0,iV 0,uV 0,iV 0,iV 0,iV 0,iV 0,.string (St [])] h44 (fun _ _ h47=> ?_)
  refine sA [iV ((getR S ((i:Int)+1)).out.1),iV ((getR S ((i:Int)+1)).out.2.1),uV ((getR S ((i:Int)+1)).out.2.2),iV ((getR S ((i:Int)+1)).st),iV ((getR S ((i:Int)+1)).why),iV ((getR S ((i:Int)+1)).tr),iV ((getR S ((i:Int)+1)).nx),.string (St ((getR S ((i:Int)+1)).tag))] h47 fun _ h49=> ?_
  have h50:=h49.b.t8
  refine go [rd 7 1 5 0 1 h49]<|cl1 call73 (zget_ht zb 64 S ((i:Int)+1)) h50 fun _ h52=>g0<|nP 149 [iV 0,iV 0,uV 0,iV 0,iV 0,iV 0,iV 0,.string (St [])] h52 (fun _ _ h55=> ?_)
  refine sA [iV ((getR S ((i:Int)+1)).out.1),iV ((getR S ((i:Int)+1)).out.2.1),uV ((getR S ((i:Int)+1)).out.2.2),iV ((getR S ((i:Int)+1)).st),iV ((getR S ((i:Int)+1)).why),iV ((getR S ((i:Int)+1)).tr),iV ((getR S ((i:Int)+1)).nx),.string (St ((getR S ((i:Int)+1)).tag))] h55 fun _ h57=>go [rd 8 1 2 0 3 h57,rd 8 3 0 0 3 h57,.s 8 4]<|lwP (.bool false) (d5e72_neq_t (x:=Ot 70) (y:=Ot 72) ((getR S ((i:Int)+1)).out.1) ((getR S ((i:Int)+1)).out.2.1) ((getR S ((i:Int)+1)).out.2.2) ((getR S ((i:Int)+1)).out.1) ((getR S ((i:Int)+1)).out.2.1) ((getR S ((i:Int)+1)).out.2.2) kr kr kr ⟨rfl,rfl,rfl⟩ _)<|go [rd 8 7 2 3 1 h57,rd 8 9 0 3 1 h57,.v 8 10 (qnF ((getR S ((i:Int)+1)).st) ((getR S ((i:Int)+1)).st)),rd 8 14 2 4 1 h57,rd 8 16 0 4 1 h57,.v 8 17 (qnF ((getR S ((i:Int)+1)).why) ((getR S ((i:Int)+1)).why)),rd 8 21 2 5 1 h57,rd 8 23 0 5 1 h57,.v 8 24 (qnF ((getR S ((i:Int)+1)).tr) ((getR S ((i:Int)+1)).tr)),rd 8 28 2 6 1 h57,rd 8 30 0 6 1 h57,.v 8 31 (qnF ((getR S ((i:Int)+1)).nx) ((getR S ((i:Int)+1)).nx)),.v 5 1 (oI (((i:Int)+1)+1) ((i:Int)+2))] ?_
  refine enL ?_
  have h59:=tk7 h57.h.h.h.f.e.h.h.t9
  change ∃n',n'<_∧_
  refine⟨(S.R.length-(i+1)),by omega,(i+1),_,rfl,om,(lvF [.k 2 (iV t),.k 3 (iV mo),.k 4 (pV r12),.k 5 (pV r15),.o 9 (oJ .i64 ((i:Int)+2) ((((i+1):Nat):Int)+1))]),h59⟩
 refine go [.v 4 4 (oF _ c40)]<|up ?_
 have hq62:=dueL_le (S:=S) (now:=t) (most:=mo)
 have h63:=h39.c.t7
 refine go [rd 10 1 5 0 1 h39]<|cP call11 (due_u b 64 S t mo) h63 ?_
 rintro v K _ (⟨p60,c61,rfl,rfl⟩) h65
 have h66:=ap2 h65
 have hW67:=(wi_out h66).1
 have hq70:=dueL_le (S:=S) (now:=t) (most:=mo)
 have h71:=h66.b.t8
 refine go [rd 11 1 5 0 1 h66]<|cP call86 (ddue_u zb 64 S hW67 t mo) h71 ?_
 rintro v K _ (⟨p68,c69,rfl,rfl⟩) h73
 have h74:=ap2 h73
 have h75:=h74.b.t9
 refine go [rd 12 1 7 0 1 h74]<|cl1 call13 (wake_w b 64 S) h75 fun _ h77=> ?_
 have h78:=h77.a.t9
 refine go [rd 13 1 6 0 1 h77]<|cl1 call90 (dwake_ht zb 64 S hW67) h78 fun _ h80=> ?_
 have h81:=h80.a.t9
 refine go [rd 14 1 7 0 1 h80]<|cl1 call14 (left_w b 64 S) h81 fun _ h83=> ?_
 have h84:=h83.a.t9
 refine go [rd 15 1 6 0 1 h83]<|cl1 call91 (dleft_ht zb 64 S) h84 fun _ h86=> ?_
 have h87:=h86.a.t9
 refine go [rd 16 1 7 0 1 h86]<|cl1 call15 (settled_w b 64 S) h87 fun _ h89=> ?_
 have h90:=h89.a.t9
 refine go [rd 17 1 6 0 1 h89]<|cl1 call92 (dsettled_ht zb 64 S) h90 fun _ h92=> ?_
 have h93:=h92.b.c.t9
 refine g0<|cl2 call93 (dints_ht p60 p68 c61 c69 (dueL S t mo) om) h93 fun _ h95=>go [.v 18 6 (qeT (dueE t mo) (dueE t mo)),.v 18 11 (qeT (((srtB S)[0]?.map (nxR S)).getD 0) (((srtB S)[0]?.map (nxR S)).getD 0)),.s 18 14] ?_
 rcases Bool.eq_false_or_eq_true (decide (0<(srtB S).length)) with cb96|cb96
 ·
  refine go [.v 18 14 (⟨.bool (decide (0<(srtB S).length)),.bool true,(by rw[cb96])⟩),.v 18 15 (⟨.bool (decide (0<(srtB S).length)),.bool true,(by rw[cb96])⟩),.s 18 16] ?_
  refine lwP (.bool true) (law_eqBool (t:=4) (x:=Ot 170) (y:=Ot 171) true true true kr underlying4 kr kr rfl _)<|go [.v 18 26 (qeT (((nums S.R 2).length:Nat):Int) (((nums S.R 2).length:Nat):Int)),.s 18 34] ?_
  rcases Bool.eq_false_or_eq_true (decide ((nums S.R 2).length=0)) with cb97|cb97
  ·
   refine go [.v 18 34 (⟨.bool (decide ((nums S.R 2).length=0)),.bool true,(by rw[cb97])⟩),.v 18 35 (⟨.bool (decide ((nums S.R 2).length=0)),.bool true,(by rw[cb97])⟩),.s 18 36] ?_
   refine lwP (.bool true) (law_eqBool (t:=4) (x:=Ot 190) (y:=Ot 191) true true true kr underlying4 kr kr rfl _)<|g0 ?_
   exact enR _ [] (tk5 (sf4 (sf4 (sf4 (sf4 (sf8 h95.d.c.e.e.t9))))))
  refine go [.v 18 34 (⟨.bool (decide ((nums S.R 2).length=0)),.bool false,(by rw[cb97])⟩),.v 18 35 (⟨.bool (decide ((nums S.R 2).length=0)),.bool false,(by rw[cb97])⟩),.s 18 36] ?_
  refine lwP (.bool true) (law_eqBool (t:=4) (x:=Ot 190) (y:=Ot 191) false false true kr underlying4 kr kr rfl _)<|g0 ?_
  exact enR _ [] (tk5 (sf4 (sf4 (sf4 (sf4 (sf8 h95.d.c.e.e.t9))))))
 refine go [.v 18 14 (⟨.bool (decide (0<(srtB S).length)),.bool false,(by rw[cb96])⟩),.v 18 15 (⟨.bool (decide (0<(srtB S).length)),.bool false,(by rw[cb96])⟩),.s 18 16] ?_
 refine lwP (.bool true) (law_eqBool (t:=4) (x:=Ot 170) (y:=Ot 171) false false true kr underlying4 kr kr rfl _)<|go [.v 18 26 (qeT (((nums S.R 2).length:Nat):Int) (((nums S.R 2).length:Nat):Int)),.s 18 34] ?_
 rcases Bool.eq_false_or_eq_true (decide ((nums S.R 2).length=0)) with cb102|cb102
 ·
  refine go [.v 18 34 (⟨.bool (decide ((nums S.R 2).length=0)),.bool true,(by rw[cb102])⟩),.v 18 35 (⟨.bool (decide ((nums S.R 2).length=0)),.bool true,(by rw[cb102])⟩),.s 18 36] ?_
  refine lwP (.bool true) (law_eqBool (t:=4) (x:=Ot 190) (y:=Ot 191) true true true kr underlying4 kr kr rfl _)<|g0 ?_
  exact enR _ [] (tk5 (sf4 (sf4 (sf4 (sf4 (sf8 h95.d.c.e.e.t9))))))
 refine go [.v 18 34 (⟨.bool (decide ((nums S.R 2).length=0)),.bool false,(by rw[cb102])⟩),.v 18 35 (⟨.bool (decide ((nums S.R 2).length=0)),.bool false,(by rw[cb102])⟩),.s 18 36] ?_
 refine lwP (.bool true) (law_eqBool (t:=4) (x:=Ot 190) (y:=Ot 191) false false true kr underlying4 kr kr rfl _)<|g0 ?_
 exact enR _ [] (tk5 (sf4 (sf4 (sf4 (sf4 (sf8 h95.d.c.e.e.t9))))))
theorem plays_law(wo:World)(hg:Lett wo)(p0:Option Addr)(n0 c0:Nat)(T0:List Tn)(hr0:Rd wo p0 n0 (fl eTn T0))(hT0:T0.length=n0)(hO0: ∀x∈T0,TnOk x)(x0 x1 x2 x3 x4 x5 bt ba cp x9 t mo:Int):HQ 8 [.slice p0 n0 c0,.agg #[iV x0,iV x1,iV x2,iV x3,iV x4,iV x5,iV bt,iV ba,iV cp,uV x9],iV t,iV mo] [Old wo] (.bool true) [Old wo]:=by
 refine hiS func8 ntmps8 fun g w0 R h0=>g0<|nP 24 [iV x0,iV x1,iV x2,iV x3,iV x4,iV x5,iV bt,iV ba,iV cp,uV x9] h0 (fun r10 _ h12=> ?_)
 refine go [.s 1 2] ?_
 by_cases c13:(n0:Int)>100
 ·
  have h14:=h12.a.t3
  refine go [.v 1 2 (oT _ c13)]<|cl1 call16 (works_ht wo hg) h14 fun _ h16=>g0 ?_
  exact enR _ [] h16.B.t2
 refine go [.v 1 2 (oF _ c13)]<|cP call10 begin_ht h12 ?_
 rintro v K _ (⟨b18,b19,rfl,rfl⟩) h21
 have h22:=ap2 h21
 refine g0<|nP 28 [.pointer none,.pointer none] h22 (fun r23 _ h25=> ?_)
 refine sA [pV b18,pV b19] h25 fun _ h27=>g0<|cP call25 begins_ht h27 ?_
 rintro v K _ (⟨b28,b29,rfl,rfl⟩) h31
 refine nP 87 [.pointer none,.pointer none] (ap2 h31) (fun r33 _ h35=> ?_)
 refine sA [pV b28,pV b29] h35 fun _ h37=>g0 ?_
 refine lpS (fun mz_ a w=> ∃i:Nat,∃Y:Pw,∃lr:Fr,mz_=n0-i∧((plP (⟨bt,ba,cp⟩:Cf) T0 i)=Y)∧(i≤n0)∧a=mk 150 (([(0,.slice p0 n0 c0),(2,iV t),(3,iV mo),(5,pV r10),(9,pV r23),(11,pV r33),(12,iV (i:Int))]:Fr)++lr)∧sat g w [Cl r23 [pV b18,pV b19] 28,Cl r33 [pV b28,pV b29] 87,Cl r10 [iV x0,iV x1,iV x2,iV x3,iV x4,iV x5,iV bt,iV ba,iV cp,uV x9] 24,TW b18 64 Y.1,Wd b19 Y.2,Zr b28 64 Y.1.A (allE Y.1.E) Y.1.R,WdR b29 Y.2,Old wo,R]) (n0-0) ⟨0,(ts0,wnew 1),_,rfl,rfl,(Nat.zero_le _),(lvF [.k 0 (.slice p0 n0 c0),.k 2 (iV t),.k 3 (iV mo),.k 5 (pV r10),.k 9 (pV r23),.k 11 (pV r33),.o 12 (oJ .i64 0 (0:Int))]),h37.e.e.f.c.f.t9⟩ ?_
 rintro m40 a41 w42 ⟨i,Y,lr39,rfl,hY_,hi_,rfl,h43⟩
 refine ga ?_
 have hWy_:=tw_ok (j:=3) h43 rfl
 refine go [.s 8 3] ?_
 by_cases c44:(i:Int)<(n0:Int);rotate_left
 ·
  refine go [.v 8 3 (oF _ c44)]<|up<|g0<|dw (fls [0,1,2,3] (Tr.an 4 (fls [5,6,7,10,11] (Tr.an 8 (Tr.an 9 (Tr.an 12 (Tr.an 13 (Tr.an 14 (fls [15,16] (Tr.an 17 (fls [18,19] Tr.nil))))))))))) h43 fun _ h209=> ?_
  have h210:=h209.f.f.f.f.t9
  refine go [rd 32 0 0 0 2 h209,rd 32 1 1 0 2 h209]<|cw4 call37 (alike_ht b18 b19 b28 b29 Y.1 Y.2 t mo) h210 fun _ h212=>⟨kd [],?_⟩
  have h214:=h212.a.t9
  refine go [rd 32 7 4 1 1 h212,rd 32 11 5 1 1 h212]<|cG call20 (wledg_ht b19 Y.2) h214 ?_
  rintro v K _ (⟨b213,rfl,rfl⟩) h216
  have h217:=ap2 h216
  refine⟨kd [rd 0 11 6 1 1 h217],?_⟩
  refine cG call21 (lgall_ht b213 Y.2.T) h217.a.t10 ?_
  rintro v K _ (⟨p218,c219,rfl,rfl⟩) h222
  have h223:=ap2 h222
  refine⟨kd [rd 0 11 7 1 1 h223],?_⟩
  refine cG call39 (r12led_ht b29 Y.2) h223.e.t11 ?_
  rintro v K _ (⟨b224,rfl,rfl⟩) h227
  have h228:=ap2 h227
  refine⟨kd [],?_⟩
  refine cG call40 (r7all_ht b224 Y.2.T) h228.a.t12 ?_
  rintro v K _ (⟨p229,c230,rfl,rfl⟩) h233
  have h234:=ap2 h233
  refine⟨kd [],?_⟩
  have htn235:=(wd_get (j:=5) h234 rfl).tn
  refine cw2 call36 (dsame_ht p218 p229 c219 c230 Y.2.T om) h234.a.c.t13 fun _ h238=>⟨kd [],?_⟩
  have h239:=h238.k.t13
  refine g0<|cw1 call16 (works_ht wo hg) h239 fun _ h241=>⟨kd [],?_⟩
  refine g0 ?_
  exact enR _ [] h241.l.a.t2
 obtain⟨b45,off47,hp46⟩:=gv_ptr (j:=7) h43 rfl (gv_old hr0) om
 refine go [.v 8 3 (oT _ c44),.s 10 2]<|lwP (.pointer (some ⟨b45,off47+i*2,none⟩)) (liP (Ot 35) (Ot 36) p0 b45 off47 (i:Int) n0 c0 underlying60 2 i hp46 (off47+i*2)) ?_
 obtain⟨x48,hx49⟩: ∃x,T0[i]? =some x:=⟨_,List.getElem?_eq_getElem (by rw[hT0];omega)⟩
 have ho50:=hO0 _ (List.mem_of_getElem? hx49);have ho50a:=ho50.1;have ho50b:=ho50.2
 refine go [.r 10 4 b45 (off47+i*2+1) [.int .u16 x48.n] ⟨gv_cell (j:=7) h43 rfl (gv_old hr0) hp46 (fl_get eTn_ok (j:=1) (v:= .int .u16 x48.n) hx49 rfl) (off47+i*2+1) om,trivial⟩,.s 11 100002] ?_
 refine jnS (fun a w=> ∃Y2:Pw,∃lr:Fr,((plP (⟨bt,ba,cp⟩:Cf) T0 (i+1))=Y2)∧a=mk 150 (([(0,.slice p0 n0 c0),(2,iV t),(3,iV mo),(5,pV r10),(9,pV r23),(11,pV r33),(12,iV (i:Int)),(13,.int .u16 x48.n)]:Fr)++lr)∧sat g w [Cl r23 [pV b18,pV b19] 28,Cl r33 [pV b28,pV b29] 87,Cl r10 [iV x0,iV x1,iV x2,iV x3,iV x4,iV x5,iV bt,iV ba,iV cp,uV x9] 24,TW b18 64 Y2.1,Wd b19 Y2.2,Zr b28 64 Y2.1.A (allE Y2.1.E) Y2.1.R,WdR b29 Y2.2,Old wo,R]) ?_ ?_
 ·
  refine go [.s 11 2]<|lwP (.pointer (some ⟨b45,off47+i*2,none⟩)) (liP (Ot 40) (Ot 41) p0 b45 off47 (i:Int) n0 c0 underlying60 2 i hp46 (off47+i*2)) ?_
  have hb51:=rem_bd (a:=x48.k) (b:=8) om om
  refine go [.r 11 4 b45 (off47+i*2) [yV x48.k] ⟨gv_cell (j:=7) h43 rfl (gv_old hr0) hp46 (fl_get eTn_ok (j:=0) (v:=yV x48.k) hx49 rfl) (off47+i*2) om,trivial⟩,.s 11 5]<|lwP (yV (x48.k%8)) (law_rem (t:=5) (x:=Ot 44) (y:=(Operand.const (yV 8))) kr x48.k 8 kr kr om (x48.k%8) (rem_ex om) _)<|go [.s 16 0] ?_
  by_cases c52:(x48.k%8)=0
  ·
   have h53:=h43.d.d.t9
   refine go [.v 16 0 (qeT _ _ c52),rd 18 0 0 0 2 h43]<|cl2 call26 (open_ht b18 b19 Y.1 Y.2 x48.n (i:Int) om om) h53 fun _ h55=> ?_
   have h56:=h55.f.f.t9
   refine go [rd 19 0 3 0 2 h55]<|cl2 call27 (dopen_ht b28 b29 Y.1 Y.2 hWy_ x48.n (i:Int) om om) h56 fun w57 h58=>g0 ?_
   refine enL ?_
   have hs59:(plP (⟨bt,ba,cp⟩:Cf) T0 (i+1))=((opnP (Y.1,Y.2) x48.n (i:Int)).1,(opnP (Y.1,Y.2) x48.n (i:Int)).2):=(plP_go hx49).trans (by rw[hY_];exact step_opn om)
   have h61:sat g _ (TW b18 64 ((plP (⟨bt,ba,cp⟩:Cf) T0 (i+1)).1)::_):=sat_imp h58.b.t9 (fun _ hh_=>by rw[hs59];exact hh_)
   have h63:sat g _ (Wd b19 ((plP (⟨bt,ba,cp⟩:Cf) T0 (i+1)).2)::_):=sat_imp h61.c.t9 (fun _ hh_=>by rw[hs59];exact hh_)
   have h65:sat g _ (Zr b28 64 (((plP (⟨bt,ba,cp⟩:Cf) T0 (i+1)).1).A) (allE ((plP (⟨bt,ba,cp⟩:Cf) T0 (i+1)).1).E) (((plP (⟨bt,ba,cp⟩:Cf) T0 (i+1)).1).R)::_):=sat_imp h63.b.t9 (fun _ hh_=>by rw[hs59];exact hh_)
   have h67:sat g _ (WdR b29 ((plP (⟨bt,ba,cp⟩:Cf) T0 (i+1)).2)::_):=sat_imp h65.c.t9 (fun _ hh_=>by rw[hs59];exact hh_)
   exact⟨(plP (⟨bt,ba,cp⟩:Cf) T0 (i+1)),_,rfl,(lvF [.k 0 (.slice p0 n0 c0),.k 2 (iV t),.k 3 (iV mo),.k 5 (pV r10),.k 9 (pV r23),.k 11 (pV r33),.k 12 (iV (i:Int)),.k 13 (.int .u16 x48.n)]),h67.a.b.c.f.f.f.t9⟩
  refine go [.v 16 0 (qeF _ _ c52),.s 17 0] ?_
  by_cases c69:(x48.k%8)=1
  ·
   have h70:=h43.d.d.t9
   refine go [.v 17 0 (qeT _ _ c69),rd 18 0 0 0 2 h43]<|cl2 call26 (open_ht b18 b19 Y.1 Y.2 x48.n (i:Int) om om) h70 fun _ h72=> ?_
   have h73:=h72.f.f.t9
   refine go [rd 19 0 3 0 2 h72]<|cl2 call27 (dopen_ht b28 b29 Y.1 Y.2 hWy_ x48.n (i:Int) om om) h73 fun w74 h75=>g0 ?_
   refine enL ?_
   have hs76:(plP (⟨bt,ba,cp⟩:Cf) T0 (i+1))=((opnP (Y.1,Y.2) x48.n (i:Int)).1,(opnP (Y.1,Y.2) x48.n (i:Int)).2):=(plP_go hx49).trans (by rw[hY_];exact step_opn om)
   have h78:sat g _ (TW b18 64 ((plP (⟨bt,ba,cp⟩:Cf) T0 (i+1)).1)::_):=sat_imp h75.b.t9 (fun _ hh_=>by rw[hs76];exact hh_)
   have h80:sat g _ (Wd b19 ((plP (⟨bt,ba,cp⟩:Cf) T0 (i+1)).2)::_):=sat_imp h78.c.t9 (fun _ hh_=>by rw[hs76];exact hh_)
   have h82:sat g _ (Zr b28 64 (((plP (⟨bt,ba,cp⟩:Cf) T0 (i+1)).1).A) (allE ((plP (⟨bt,ba,cp⟩:Cf) T0 (i+1)).1).E) (((plP (⟨bt,ba,cp⟩:Cf) T0 (i+1)).1).R)::_):=sat_imp h80.b.t9 (fun _ hh_=>by rw[hs76];exact hh_)
   have h84:sat g _ (WdR b29 ((plP (⟨bt,ba,cp⟩:Cf) T0 (i+1)).2)::_):=sat_imp h82.c.t9 (fun _ hh_=>by rw[hs76];exact hh_)
   exact⟨(plP (⟨bt,ba,cp⟩:Cf) T0 (i+1)),_,rfl,(lvF [.k 0 (.slice p0 n0 c0),.k 2 (iV t),.k 3 (iV mo),.k 5 (pV r10),.k 9 (pV r23),.k 11 (pV r33),.k 12 (iV (i:Int)),.k 13 (.int .u16 x48.n)]),h84.a.b.c.f.f.f.t9⟩
  refine go [.v 17 0 (qeF _ _ c69),.s 20 0] ?_
  by_cases c86:(x48.k%8)=2
  ·
   have h87:=h43.d.d.t9
   refine go [.v 20 0 (qeT _ _ c86),rd 22 0 0 0 2 h43]<|cl2 call28 (shut_ht b18 b19 Y.1 Y.2 x48.n om) h87 fun _ h89=> ?_
   have h90:=h89.f.f.t9
   refine go [rd 23 0 3 0 2 h89]<|cl2 call29 (dshut_ht b28 b29 Y.1 Y.2 hWy_ x48.n om) h90 fun w91 h92=>g0 ?_
   refine enL ?_
   have hs93:(plP (⟨bt,ba,cp⟩:Cf) T0 (i+1))=((shuP (Y.1,Y.2) x48.n).1,(shuP (Y.1,Y.2) x48.n).2):=(plP_go hx49).trans (by rw[hY_];exact step_shu om)
   have h95:sat g _ (TW b18 64 ((plP (⟨bt,ba,cp⟩:Cf) T0 (i+1)).1)::_):=sat_imp h92.b.t9 (fun _ hh_=>by rw[hs93];exact hh_)
   have h97:sat g _ (Wd b19 ((plP (⟨bt,ba,cp⟩:Cf) T0 (i+1)).2)::_):=sat_imp h95.c.t9 (fun _ hh_=>by rw[hs93];exact hh_)
   have h99:sat g _ (Zr b28 64 (((plP (⟨bt,ba,cp⟩:Cf) T0 (i+1)).1).A) (allE ((plP (⟨bt,ba,cp⟩:Cf) T0 (i+1)).1).E) (((plP (⟨bt,ba,cp⟩:Cf) T0 (i+1)).1).R)::_):=sat_imp h97.b.t9 (fun _ hh_=>by rw[hs93];exact hh_)
   have h101:sat g _ (WdR b29 ((plP (⟨bt,ba,cp⟩:Cf) T0 (i+1)).2)::_):=sat_imp h99.c.t9 (fun _ hh_=>by rw[hs93];exact hh_)
   exact⟨(plP (⟨bt,ba,cp⟩:Cf) T0 (i+1)),_,rfl,(lvF [.k 0 (.slice p0 n0 c0),.k 2 (iV t),.k 3 (iV mo),.k 5 (pV r10),.k 9 (pV r23),.k 11 (pV r33),.k 12 (iV (i:Int)),.k 13 (.int .u16 x48.n)]),h101.a.b.c.f.f.f.t9⟩
  refine go [.v 20 0 (qeF _ _ c86),.s 21 0] ?_
  by_cases c103:(x48.k%8)=3
  ·
   have h104:=h43.d.d.t9
   refine go [.v 21 0 (qeT _ _ c103),rd 22 0 0 0 2 h43]<|cl2 call28 (shut_ht b18 b19 Y.1 Y.2 x48.n om) h104 fun _ h106=> ?_
   have h107:=h106.f.f.t9
   refine go [rd 23 0 3 0 2 h106]<|cl2 call29 (dshut_ht b28 b29 Y.1 Y.2 hWy_ x48.n om) h107 fun w108 h109=>g0 ?_
   refine enL ?_
   have hs110:(plP (⟨bt,ba,cp⟩:Cf) T0 (i+1))=((shuP (Y.1,Y.2) x48.n).1,(shuP (Y.1,Y.2) x48.n).2):=(plP_go hx49).trans (by rw[hY_];exact step_shu om)
   have h112:sat g _ (TW b18 64 ((plP (⟨bt,ba,cp⟩:Cf) T0 (i+1)).1)::_):=sat_imp h109.b.t9 (fun _ hh_=>by rw[hs110];exact hh_)
   have h114:sat g _ (Wd b19 ((plP (⟨bt,ba,cp⟩:Cf) T0 (i+1)).2)::_):=sat_imp h112.c.t9 (fun _ hh_=>by rw[hs110];exact hh_)
   have h116:sat g _ (Zr b28 64 (((plP (⟨bt,ba,cp⟩:Cf) T0 (i+1)).1).A) (allE ((plP (⟨bt,ba,cp⟩:Cf) T0 (i+1)).1).E) (((plP (⟨bt,ba,cp⟩:Cf) T0 (i+1)).1).R)::_):=sat_imp h114.b.t9 (fun _ hh_=>by rw[hs110];exact hh_)
   have h118:sat g _ (WdR b29 ((plP (⟨bt,ba,cp⟩:Cf) T0 (i+1)).2)::_):=sat_imp h116.c.t9 (fun _ hh_=>by rw[hs110];exact hh_)
   exact⟨(plP (⟨bt,ba,cp⟩:Cf) T0 (i+1)),_,rfl,(lvF [.k 0 (.slice p0 n0 c0),.k 2 (iV t),.k 3 (iV mo),.k 5 (pV r10),.k 9 (pV r23),.k 11 (pV r33),.k 12 (iV (i:Int)),.k 13 (.int .u16 x48.n)]),h118.a.b.c.f.f.f.t9⟩
  refine go [.v 21 0 (qeF _ _ c103),.s 24 0] ?_
  by_cases c120:(x48.k%8)=4
  ·
   have hb121:=rem_bd (a:=x48.n) (b:=300) om om
   refine go [.v 24 0 (qeT _ _ c120),rd 25 1 0 1 1 h43,.s 25 3]<|lwP (.int .u16 (x48.n%300)) (law_rem (t:=78) (x:=Ot 97) (y:=(Operand.const (.int .u16 300))) kr x48.n 300 kr kr om (x48.n%300) (rem_ex om) _) ?_
   have h122:=h43.d.t9
   refine go [.v 25 4 (oIr (x48.n%300)),.v 25 5 (oI (1+(x48.n%300)) ((x48.n%300)+1))]<|cl1 call30 (wtick_ht b19 Y.2 ((x48.n%300)+1)) h122 fun _ h124=> ?_
   have hb125:=rem_bd (a:=x48.n) (b:=300) om om
   refine go [rd 26 1 2 1 1 h124,.s 26 3]<|lwP (.int .u16 (x48.n%300)) (law_rem (t:=78) (x:=Ot 104) (y:=(Operand.const (.int .u16 300))) kr x48.n 300 kr kr om (x48.n%300) (rem_ex om) _) ?_
   have h126:=h124.f.t9
   refine go [.v 26 4 (oIr (x48.n%300)),.v 26 5 (oI (1+(x48.n%300)) ((x48.n%300)+1))]<|cl1 call31 (r12tck_ht b29 Y.2 ((x48.n%300)+1)) h126 fun w127 h128=>g0 ?_
   refine enL ?_
   have hs129:(plP (⟨bt,ba,cp⟩:Cf) T0 (i+1))=(Y.1,tckS Y.2 ((x48.n%300)+1)):=(plP_go hx49).trans (by rw[hY_];exact step_tck om)
   have h131:sat g _ (TW b18 64 ((plP (⟨bt,ba,cp⟩:Cf) T0 (i+1)).1)::_):=sat_imp h128.e.t9 (fun _ hh_=>by rw[hs129];exact hh_)
   have h133:sat g _ (Wd b19 ((plP (⟨bt,ba,cp⟩:Cf) T0 (i+1)).2)::_):=sat_imp h131.b.t9 (fun _ hh_=>by rw[hs129];exact hh_)
   have h135:sat g _ (Zr b28 64 (((plP (⟨bt,ba,cp⟩:Cf) T0 (i+1)).1).A) (allE ((plP (⟨bt,ba,cp⟩:Cf) T0 (i+1)).1).E) (((plP (⟨bt,ba,cp⟩:Cf) T0 (i+1)).1).R)::_):=sat_imp h133.f.t9 (fun _ hh_=>by rw[hs129];exact hh_)
   have h137:sat g _ (WdR b29 ((plP (⟨bt,ba,cp⟩:Cf) T0 (i+1)).2)::_):=sat_imp h135.c.t9 (fun _ hh_=>by rw[hs129];exact hh_)
   exact⟨(plP (⟨bt,ba,cp⟩:Cf) T0 (i+1)),_,rfl,(lvF [.k 0 (.slice p0 n0 c0),.k 2 (iV t),.k 3 (iV mo),.k 5 (pV r10),.k 9 (pV r23),.k 11 (pV r33),.k 12 (iV (i:Int)),.k 13 (.int .u16 x48.n)]),h137.a.b.c.f.f.f.t9⟩
  refine go [.v 24 0 (qeF _ _ c120),.s 27 0] ?_
  by_cases c139:(x48.k%8)=5
  ·
   refine go [.v 27 0 (qeT _ _ c139)]<|dw (fls [0,1,2] (Tr.an 3 (Tr.an 4 Tr.nil))) h43 fun _ h141=>go [rd 28 1 0 1 1 h141]<|cw0 call33 (answers_ht x48.n om) h141 fun _ h143=>⟨kd [rd 0 1 0 1 1 h143],?_⟩
   refine cw2 call32 (wansw_ht wo hg b19 Y.2 (ansW x48.n) (by have:=ansW_len x48.n;omega)) h143.x.e.t9 fun _ h146=>⟨kd [],?_⟩
   refine g0<|dw (fls [0,1,2] (Tr.an 3 (Tr.an 4 Tr.nil))) h146 fun _ h148=>go [rd 29 1 3 1 1 h148]<|cw0 call33 (answers_ht x48.n om) h148 fun _ h150=>⟨kd [rd 0 1 3 1 1 h150],?_⟩
   refine cw1 call34 (r12asw_ht b29 Y.2 (ansW x48.n) (by have:=ansW_len x48.n;omega)) h150.x.t9 fun w152 h153=>⟨kd [],?_⟩
   refine g0 ?_
   refine enL ?_
   have hs154:(plP (⟨bt,ba,cp⟩:Cf) T0 (i+1))=(Y.1,aswS Y.2 (ansW x48.n)):=(plP_go hx49).trans (by rw[hY_];exact step_asw om)
   have h156:sat g _ (TW b18 64 ((plP (⟨bt,ba,cp⟩:Cf) T0 (i+1)).1)::_):=sat_imp h153.f.t9 (fun _ hh_=>by rw[hs154];exact hh_)
   have h158:sat g _ (Wd b19 ((plP (⟨bt,ba,cp⟩:Cf) T0 (i+1)).2)::_):=sat_imp h156.b.t9 (fun _ hh_=>by rw[hs154];exact hh_)
   have h160:sat g _ (Zr b28 64 (((plP (⟨bt,ba,cp⟩:Cf) T0 (i+1)).1).A) (allE ((plP (⟨bt,ba,cp⟩:Cf) T0 (i+1)).1).E) (((plP (⟨bt,ba,cp⟩:Cf) T0 (i+1)).1).R)::_):=sat_imp h158.x.t9 (fun _ hh_=>by rw[hs154];exact hh_)
   have h162:sat g _ (WdR b29 ((plP (⟨bt,ba,cp⟩:Cf) T0 (i+1)).2)::_):=sat_imp h160.c.t9 (fun _ hh_=>by rw[hs154];exact hh_)
   exact⟨(plP (⟨bt,ba,cp⟩:Cf) T0 (i+1)),_,rfl,(lvF [.k 0 (.slice p0 n0 c0),.k 2 (iV t),.k 3 (iV mo),.k 5 (pV r10),.k 9 (pV r23),.k 11 (pV r33),.k 12 (iV (i:Int)),.k 13 (.int .u16 x48.n)]),h162.a.b.c.x.x.x.t9⟩
  have hq166:=rnL_le (c:=(⟨bt,ba,cp⟩:Cf)) (X:=(Y.1,Y.2))
  have hru167:cfgE (⟨bt,ba,cp⟩:Cf)=0→RunOk (⟨bt,ba,cp⟩:Cf) Y.2.now (Y.1,Y.2) (dueB Y.1 Y.2.now bt):=fun hc_=>by have h_:=pl_ok hc_ hO0 om i x48 hx49 (show isRun x48 by unfold isRun;omega);rw[hY_] at h_;exact h_
  have h168:=h43.d.d.t9
  refine go [.v 27 0 (qeF _ _ c139),rd 12 1 0 0 1 h43,rd 12 3 0 1 1 h43,rd 12 4 2 0 10 h43]<|cP call12 (run_w b18 64 b19 Y.1 Y.2 x0 x1 x2 x3 x4 x5 bt ba cp x9 hru167) h168 ?_
  rintro v K _ (⟨p164,c165,rfl,rfl⟩) h170
  have h171:=ap3 h170
  have hru174:cfgE (⟨bt,ba,cp⟩:Cf)=0→RunOk (⟨bt,ba,cp⟩:Cf) Y.2.now (Y.1,Y.2) (dueB Y.1 Y.2.now bt):=fun hc_=>by have h_:=pl_ok hc_ hO0 om i x48 hx49 (show isRun x48 by unfold isRun;omega);rw[hY_] at h_;exact h_
  have h175:=h171.x.x.t10
  refine go [rd 13 1 4 0 1 h171,rd 13 3 4 1 1 h171,rd 13 4 5 0 10 h171]<|cP call35 (drun_w b28 64 b29 Y.1 Y.2 x0 x1 x2 x3 x4 x5 bt ba cp x9 hWy_ hru174) h175 ?_
  rintro v K _ (⟨p172,c173,rfl,rfl⟩) h177
  have h178:=ap3 h177
  have htn179:=(wd_get (j:=4) h178 rfl).tn
  have h180:=h178.b.e.t11
  refine g0<|cl2 call36 (dsame_ht p164 p172 c165 c173 (rnL (⟨bt,ba,cp⟩:Cf) (Y.1,Y.2)) om) h180 fun w181 h182=>go [.v 14 7 (qnF (cfgE (⟨bt,ba,cp⟩:Cf)) (cfgE (⟨bt,ba,cp⟩:Cf)))] ?_
  refine enL ?_
  have hs183:(plP (⟨bt,ba,cp⟩:Cf) T0 (i+1))=((rnS (⟨bt,ba,cp⟩:Cf) (Y.1,Y.2)).1,(rnS (⟨bt,ba,cp⟩:Cf) (Y.1,Y.2)).2):=(plP_go hx49).trans (by rw[hY_];exact step_run (show isRun x48 by unfold isRun;omega))
  have h185:sat g _ (TW b18 64 ((plP (⟨bt,ba,cp⟩:Cf) T0 (i+1)).1)::_):=sat_imp h182.d.t11 (fun _ hh_=>by rw[hs183];exact hh_)
  have h187:sat g _ (Wd b19 ((plP (⟨bt,ba,cp⟩:Cf) T0 (i+1)).2)::_):=sat_imp h185.e.t11 (fun _ hh_=>by rw[hs183];exact hh_)
  have h189:sat g _ (Zr b28 64 (((plP (⟨bt,ba,cp⟩:Cf) T0 (i+1)).1).A) (allE ((plP (⟨bt,ba,cp⟩:Cf) T0 (i+1)).1).E) (((plP (⟨bt,ba,cp⟩:Cf) T0 (i+1)).1).R)::_):=sat_imp h187.d.t11 (fun _ hh_=>by rw[hs183];exact hh_)
  have h191:sat g _ (WdR b29 ((plP (⟨bt,ba,cp⟩:Cf) T0 (i+1)).2)::_):=sat_imp h189.e.t11 (fun _ hh_=>by rw[hs183];exact hh_)
  exact⟨(plP (⟨bt,ba,cp⟩:Cf) T0 (i+1)),_,rfl,(lvF [.k 0 (.slice p0 n0 c0),.k 2 (iV t),.k 3 (iV mo),.k 5 (pV r10),.k 9 (pV r23),.k 11 (pV r33),.k 12 (iV (i:Int)),.k 13 (.int .u16 x48.n)]),(tk9 h191.j.j.b.c.d.e.j.j.j.t11)⟩
 rintro a194 w195 ⟨Y2,lr197,hY2_,rfl,h196⟩
 refine ga<|g0<|dw (fls [0,1,2,3,5,6,7] (Tr.an 4 (Tr.an 8 (Tr.fl 9 Tr.nil)))) h196 fun _ h199=> ?_
 have hb200:=rem_bd (a:=x48.n) (b:=70) om om
 refine go [rd 30 0 0 0 2 h199,rd 30 1 1 0 2 h199,rd 30 3 0 1 1 h199,.s 30 6]<|lw (.int .u16 (x48.n%70)) (fun _=>law_rem (t:=78) (x:=Ot 126) (y:=(Operand.const (.int .u16 70))) kr x48.n 70 kr kr om (x48.n%70) (rem_ex om) _) ?_
 have h201:=h199.d.t9
 refine go [.v 30 7 (oIr (x48.n%70))]<|cw1 call38 (wnow_ht b19 Y2.2) h201 fun _ h203=>⟨kd [rd 0 1 2 0 2 h203,rd 0 0 1 0 2 h203],?_⟩
 refine cw4 call37 (alike_ht b18 b19 b28 b29 Y2.1 Y2.2 Y2.2.now (x48.n%70)) h203.f.f.b.f.t9 fun _ h206=>⟨kd [],?_⟩
 refine go [.v 9 1 (oIr ((i:Int)+1))] ?_
 refine enL ?_
 have h207:=h206.f.f.f.t9
 change ∃n',n'<_∧_
 refine⟨(n0-(i+1)),by omega,(i+1),Y2,_,rfl,hY2_,om,(lvF [.k 0 (.slice p0 n0 c0),.k 2 (iV t),.k 3 (iV mo),.k 5 (pV r10),.k 9 (pV r23),.k 11 (pV r33),.o 12 (oJ .i64 ((i:Int)+1) (((i+1):Nat):Int))]),h207⟩
end Go.Proofs.YtehlamblpekmkaaGreatDoor
