/- Walks, printed by my generator P:../out/r3.py. -/
import Derived.Test.YtehlamblpekmkaaGreatDoorBundle40
import Derived.Test.YtehlamblpekmkaaGreatDoorHq
import Derived.Test.YtehlamblpekmkaaGreatDoorBundle31
namespace Go.Proofs.YtehlamblpekmkaaGreatDoor
open Tryz
set_option maxHeartbeats 4000000
theorem r10new_ht(gn:Int)(hgn:1≤gn∧gn≤4294967295):HT prog 131 [iV 64,iV 1048576,uV gn] [] (fun v K=> ∃b:Nat,v= .tuple #[pV b,iV 0]∧K= [PlR b (List.replicate 64 (0,gn,0))]):=by
 refine hiS func131 ntmps131 fun g w0 R h0=>go [.v 1 16 (oF (gn<1))]<|nP 291 [.bool true,iV 1048576,.slice none 0 0] h0 (fun r10 w11 h12=> ?_)
 refine g0 ?_
 have h13:sat g _ (Sl 293 4 none 0 0 (fl eId [])::_):=sl_nil 293 4 h12
 refine lpS (fun mz_ a w=> ∃i:Nat,∃p2:Option Addr,∃c2:Nat,∃lr:Fr,mz_=64-i∧(i≤64)∧a=mk 48 (([(0,iV 64),(2,uV gn),(8,pV r10),(9,iV (i:Int))]:Fr)++lr)∧sat g w [Sl 293 4 p2 i c2 (fl eId (List.replicate i (0,gn,0))),Cl r10 [.bool true,iV 1048576,.slice p2 i c2] 291,R]) (64-0) ⟨0,none,0,_,rfl,(Nat.zero_le _),(lvF [.k 0 (iV 64),.k 2 (uV gn),.k 8 (pV r10),.o 9 (oJ .i64 0 (0:Int))]),h13⟩ ?_
 rintro m15 a16 w17 ⟨i,p2,c2,lr14,rfl,hi,rfl,h18⟩
 refine ga<|go [.s 5 2] ?_
 by_cases c19:(i:Int)<64
 ·
  refine go [.v 5 2 (oT _ c19),rd 7 4 1 2 1 h18]<|nG (fun q_=> .slice (some ⟨q_,0,none⟩) 1 1) 293 [.bool false,.bool false,uV gn,iV 0] h18 (fun r20 _ h22=>⟨kd [],?_⟩)
  have h23:=h22.a.t4
  refine actG ?_
  refine aA 44 4 (Ot 40) (Ot 43) (.agg #[.bool false,.bool false,uV 0,iV 0]) p2 i c2 1 1 (⟨r20,0,none⟩) 16 underlying289 h23 (fl eId [(0,gn,0)]) rfl (cell1 h23 rfl) (fl_one eId_ok _) (i+1) ?_
  intro p24 cap25 w26 h27
  have h28:sat g _ (Sl 293 4 p24 (i+1) cap25 (fl eId ((List.replicate i (0,gn,0))++ [(0,gn,0)]))::_):=sJ h27
  obtain⟨hn29,hn30⟩:=sl_le h28
  refine nxA ?_
  have h31:=h28.b.t4
  refine g0<|sP [(2,.slice p24 (i+1) cap25)] [.bool true,iV 1048576,.slice p24 (i+1) cap25] h31 fun w32 h33=>go [.v 6 1 (oIr ((i:Int)+1))] ?_
  refine enL ?_
  have h35:sat g _ (Sl 293 4 p24 (i+1) cap25 (fl eId (List.replicate (i+1) (0,gn,0)))::_):=sat_imp h33.a.t4 (fun _ hh_=>by rw[show (((List.replicate i (0,gn,0))++ [(0,gn,0)]):List Fl)=(List.replicate (i+1) (0,gn,0)) from List.replicate_succ'.symm] at hh_;exact hh_)
  have h37:=tk3 h35.c.b.b.t4
  change ∃n',n'<_∧_
  refine⟨(64-(i+1)),by omega,(i+1),p24,cap25,_,rfl,om,(lvF [.k 0 (iV 64),.k 2 (uV gn),.k 8 (pV r10),.o 9 (oJ .i64 ((i:Int)+1) (((i+1):Nat):Int))]),h37⟩
 refine go [.v 5 2 (oF _ c19)]<|up<|g0 ?_
 have hi_:i=64:=by omega
 have h38:=h18.a.t3
 have h39:sat g w17 [PlR r10 (List.replicate 64 (0,gn,0)),R]:=by rw[hi_] at h38;exact pr_close ⟨List.length_replicate,slok_rep ⟨by omega,by omega⟩,rep_bnd,zv_rep⟩ h38
 exact en (.tuple #[pV r10,iV 0]) [] ⟨_,_,rfl,⟨r10,rfl,rfl⟩,h39⟩
theorem r10set1_ht(b:Nat)(X:Xs)(q:Nat)(gn va:Int)(hq:q≤63)(hgn:1≤gn∧gn≤4294967295)(hv:0≤va∧va≤65536):HQ 226 [pV b,iV (q:Int),.agg #[.bool true,.bool false,uV gn,iV va]] [PlR b X] (.tuple #[]) [PlR b (X.set q (1,gn,va))]:=by
 refine hiS func226 ntmps226 fun g w0 R h0=>g0<|nP 293 [.bool true,.bool false,uV gn,iV va] h0 (fun r10 _ h12=> ?_)
 refine g0<|nG (fun q_=> .slice (some ⟨q_,0,none⟩) 0 0) 293 [] h12 (fun r13 w14 h15=>⟨kd [],?_⟩)
 obtain⟨p19,c20,hP17,h18⟩:=pr_open h15.b.t4
 have hok_:=hP17.2.1
 have h22:sat g _ (Sl 293 4 (some ⟨r13,0,none⟩) 0 0 (fl eId [])::_):=sl_of_cl h18.b.t5 rfl om
 refine go [rd 1 4 0 2 1 h18] ?_
 refine actG ?_
 refine aG 12 4 (Ot 7) (Ot 11) (.agg #[.bool false,.bool false,uV 0,iV 0]) (some ⟨r13,0,none⟩) p19 0 0 64 c20 16 underlying289 h22 2 rfl (fl eId X) (gv_sl _ _ _) (by rw[fl_len eId_ok,hP17.1]) (fl_one eId_ok _) 64 ?_
 intro p23 cap24 w25 h26
 have h27:sat g _ (Sl 293 4 p23 64 cap24 (fl eId X)::_):=sI h26
 obtain⟨hn28,hn29⟩:=sl_le h27
 refine nxA ?_
 obtain⟨b30,hp31⟩:=sl_ptr0 (j:=0) h27 rfl om
 refine go [rd 2 2 3 0 4 h27,.s 2 3]<|lwP (.pointer (some ⟨b30,q*4,none⟩)) (liP (Ot 13) (Ot 14) p23 b30 0 (q:Int) 64 cap24 underlying289 4 q hp31 (q*4)) ?_
 refine actG ?_
 have hl34:=fl_n eId_ok dc h27
 obtain⟨x35,hx36⟩: ∃x,X[q]? =some x:=⟨_,List.getElem?_eq_getElem (by rw[hl34];omega)⟩
 have hb37:=slOk_as hok_ hx36
 refine an_storeSl (b:=b30) [(q*4,.bool true),(q*4+1,.bool false),(q*4+2,uV gn),(q*4+3,iV va)] (cs':=(fl eId (X.set q (1,gn,va)))) kr kr hp31 (allq ⟨⟨by omega,rfl⟩,⟨by omega,rfl⟩,⟨by omega,rfl⟩,⟨by omega,rfl⟩,trivial⟩) om (fl_upd eId_ok (i:=q) (x:=x35) (y:=(1,gn,va)) hx36 [(0,.bool true),(1,.bool false),(2,uV gn),(3,iV va)] rfl rfl rfl) h27 ?_
 intro _ h33
 refine nxB ?_
 have h38:=h33.a.t5
 refine g0<|sP [(2,.slice p23 64 cap24)] [.bool true,iV 1048576,.slice p23 64 cap24] h38 fun w39 h40=>g0 ?_
 have h41:sat g _ (PlR b (X.set q (1,gn,va))::_):=pr_close (pr_set hP17 ⟨(by decide:(0:Int)≤1),(by decide:(1:Int)≤2),hgn.1,hgn.2⟩ (fun _=>hv) (fun q_=>absurd rfl q_)) h40
 exact enR _ [] h41.c.a.t2
theorem r10set2_ht(b:Nat)(X:Xs)(q:Nat)(gn:Int)(hq:q≤63)(hgn:1≤gn∧gn≤4294967295):HQ 226 [pV b,iV (q:Int),.agg #[.bool false,.bool true,uV gn,iV 0]] [PlR b X] (.tuple #[]) [PlR b (X.set q (2,gn,0))]:=by
 refine hiS func226 ntmps226 fun g w0 R h0=>g0<|nP 293 [.bool false,.bool true,uV gn,iV 0] h0 (fun r10 _ h12=> ?_)
 refine g0<|nG (fun q_=> .slice (some ⟨q_,0,none⟩) 0 0) 293 [] h12 (fun r13 w14 h15=>⟨kd [],?_⟩)
 obtain⟨p19,c20,hP17,h18⟩:=pr_open h15.b.t4
 have hok_:=hP17.2.1
 have h22:sat g _ (Sl 293 4 (some ⟨r13,0,none⟩) 0 0 (fl eId [])::_):=sl_of_cl h18.b.t5 rfl om
 refine go [rd 1 4 0 2 1 h18] ?_
 refine actG ?_
 refine aG 12 4 (Ot 7) (Ot 11) (.agg #[.bool false,.bool false,uV 0,iV 0]) (some ⟨r13,0,none⟩) p19 0 0 64 c20 16 underlying289 h22 2 rfl (fl eId X) (gv_sl _ _ _) (by rw[fl_len eId_ok,hP17.1]) (fl_one eId_ok _) 64 ?_
 intro p23 cap24 w25 h26
 have h27:sat g _ (Sl 293 4 p23 64 cap24 (fl eId X)::_):=sI h26
 obtain⟨hn28,hn29⟩:=sl_le h27
 refine nxA ?_
 obtain⟨b30,hp31⟩:=sl_ptr0 (j:=0) h27 rfl om
 refine go [rd 2 2 3 0 4 h27,.s 2 3]<|lwP (.pointer (some ⟨b30,q*4,none⟩)) (liP (Ot 13) (Ot 14) p23 b30 0 (q:Int) 64 cap24 underlying289 4 q hp31 (q*4)) ?_
 refine actG ?_
 have hl34:=fl_n eId_ok dc h27
 obtain⟨x35,hx36⟩: ∃x,X[q]? =some x:=⟨_,List.getElem?_eq_getElem (by rw[hl34];omega)⟩
 have hb37:=slOk_as hok_ hx36
 refine an_storeSl (b:=b30) [(q*4,.bool false),(q*4+1,.bool true),(q*4+2,uV gn),(q*4+3,iV 0)] (cs':=(fl eId (X.set q (2,gn,0)))) kr kr hp31 (allq ⟨⟨by omega,rfl⟩,⟨by omega,rfl⟩,⟨by omega,rfl⟩,⟨by omega,rfl⟩,trivial⟩) om (fl_upd eId_ok (i:=q) (x:=x35) (y:=(2,gn,0)) hx36 [(0,.bool false),(1,.bool true),(2,uV gn),(3,iV 0)] rfl rfl rfl) h27 ?_
 intro _ h33
 refine nxB ?_
 have h38:=h33.a.t5
 refine g0<|sP [(2,.slice p23 64 cap24)] [.bool true,iV 1048576,.slice p23 64 cap24] h38 fun w39 h40=>g0 ?_
 have h41:sat g _ (PlR b (X.set q (2,gn,0))::_):=pr_close (pr_set hP17 ⟨(by decide:(0:Int)≤2),(by decide:(2:Int)≤2),hgn.1,hgn.2⟩ (fun q_=>absurd q_ (show ¬(2:Int)=1 by decide)) (fun _=>rfl)) h40
 exact enR _ [] h41.c.a.t2
theorem r10set0_ht(b:Nat)(X:Xs)(q:Nat)(gn:Int)(hq:q≤63)(hgn:1≤gn∧gn≤4294967295):HQ 226 [pV b,iV (q:Int),.agg #[.bool false,.bool false,uV gn,iV 0]] [PlR b X] (.tuple #[]) [PlR b (X.set q (0,gn,0))]:=by
 refine hiS func226 ntmps226 fun g w0 R h0=>g0<|nP 293 [.bool false,.bool false,uV gn,iV 0] h0 (fun r10 _ h12=> ?_)
 refine g0<|nG (fun q_=> .slice (some ⟨q_,0,none⟩) 0 0) 293 [] h12 (fun r13 w14 h15=>⟨kd [],?_⟩)
 obtain⟨p19,c20,hP17,h18⟩:=pr_open h15.b.t4
 have hok_:=hP17.2.1
 have h22:sat g _ (Sl 293 4 (some ⟨r13,0,none⟩) 0 0 (fl eId [])::_):=sl_of_cl h18.b.t5 rfl om
 refine go [rd 1 4 0 2 1 h18] ?_
 refine actG ?_
 refine aG 12 4 (Ot 7) (Ot 11) (.agg #[.bool false,.bool false,uV 0,iV 0]) (some ⟨r13,0,none⟩) p19 0 0 64 c20 16 underlying289 h22 2 rfl (fl eId X) (gv_sl _ _ _) (by rw[fl_len eId_ok,hP17.1]) (fl_one eId_ok _) 64 ?_
 intro p23 cap24 w25 h26
 have h27:sat g _ (Sl 293 4 p23 64 cap24 (fl eId X)::_):=sI h26
 obtain⟨hn28,hn29⟩:=sl_le h27
 refine nxA ?_
 obtain⟨b30,hp31⟩:=sl_ptr0 (j:=0) h27 rfl om
 refine go [rd 2 2 3 0 4 h27,.s 2 3]<|lwP (.pointer (some ⟨b30,q*4,none⟩)) (liP (Ot 13) (Ot 14) p23 b30 0 (q:Int) 64 cap24 underlying289 4 q hp31 (q*4)) ?_
 refine actG ?_
 have hl34:=fl_n eId_ok dc h27
 obtain⟨x35,hx36⟩: ∃x,X[q]? =some x:=⟨_,List.getElem?_eq_getElem (by rw[hl34];omega)⟩
 have hb37:=slOk_as hok_ hx36
 refine an_storeSl (b:=b30) [(q*4,.bool false),(q*4+1,.bool false),(q*4+2,uV gn),(q*4+3,iV 0)] (cs':=(fl eId (X.set q (0,gn,0)))) kr kr hp31 (allq ⟨⟨by omega,rfl⟩,⟨by omega,rfl⟩,⟨by omega,rfl⟩,⟨by omega,rfl⟩,trivial⟩) om (fl_upd eId_ok (i:=q) (x:=x35) (y:=(0,gn,0)) hx36 [(0,.bool false),(1,.bool false),(2,uV gn),(3,iV 0)] rfl rfl rfl) h27 ?_
 intro _ h33
 refine nxB ?_
 have h38:=h33.a.t5
 refine g0<|sP [(2,.slice p23 64 cap24)] [.bool true,iV 1048576,.slice p23 64 cap24] h38 fun w39 h40=>g0 ?_
 have h41:sat g _ (PlR b (X.set q (0,gn,0))::_):=pr_close (pr_set hP17 ⟨(by decide:(0:Int)≤0),(by decide:(0:Int)≤2),hgn.1,hgn.2⟩ (fun q_=>absurd q_ (show ¬(0:Int)=1 by decide)) (fun _=>rfl)) h40
 exact enR _ [] h41.c.a.t2
theorem pr_used{g w:World}{L:List Assn}{j b:Nat}{X:Xs}(h:sat g w L)(hj:L[j]? =some (PlR b X)):0≤used X∧used X≤4194304:=by
 have hx:X.length=64∧SlOk (As X)∧Bnd X∧Zv X:=sat_use h hj fun _ ha _=>by
  obtain⟨_,hx,_⟩:=ha
  exact hx
 have:=used_bd hx.2.2.1
 rw[hx.1] at this
 omega
theorem r10used_ht(b:Nat)(X:Xs):HQ 259 [pV b] [PlR b X] (iV (used X)) [PlR b X]:=by
 refine hiS func259 ntmps259 fun g w0 R h0=>g0 ?_
 obtain⟨p12,c13,hP10,h11⟩:=pr_open h0
 have hok_:=hP10.2.1
 have hu0_:useP X 0=0:=rfl
 refine lpS (fun mz_ a w=> ∃i:Nat,∃lr:Fr,mz_=64-i∧(i≤64)∧a=mk 29 (([(0,pV b),(3,iV (useP X i)),(4,iV (i:Int))]:Fr)++lr)∧sat g w [Cl b [.bool true,iV 1048576,.slice p12 64 c13] 291,Sl 293 4 p12 64 c13 (fl eId X),R]) (64-0) ⟨0,_,rfl,(Nat.zero_le _),(lvF [.k 0 (pV b),.o 3 (oJ .i64 0 (useP X 0)),.o 4 (oJ .i64 0 (0:Int))]),h11⟩ ?_
 rintro m15 a16 w17 ⟨i,lr14,rfl,hi,rfl,h18⟩
 refine ga ?_
 have hub_:=useP_bd hP10.2.2.2 hP10.2.2.1 i (by rw[hP10.1];omega)
 refine g0<|cl1 call220 (r10v b (iV 1048576) (.slice p12 64 c13)) h18 fun w19 h20=>go [rd 3 7 0 2 1 h20,.v 3 8 (oJ .i64 (64:Int) 64),.s 3 9] ?_
 by_cases c21:(i:Int)<64
 ·
  obtain⟨b22,hp23⟩:=sl_ptr0 (j:=1) h20 rfl om
  refine go [.v 3 9 (oT _ c21),rd 5 4 0 2 1 h20,.s 5 6]<|lwP (.pointer (some ⟨b22,i*4,none⟩)) (liP (Ot 22) (Ot 23) p12 b22 0 (i:Int) 64 c13 underlying289 4 i hp23 (i*4)) ?_
  obtain⟨x24,hx25⟩: ∃x,X[i]? =some x:=⟨_,List.getElem?_eq_getElem (by rw[hP10.1];omega)⟩
  have hb26:=slOk_as hok_ hx25
  have hz27:=zb_at hP10.2.2.2 hP10.2.2.1 hx25
  refine go [.r 5 8 b22 (i*4+3) [iV x24.2.2] ⟨gvc 1 h20 rfl hp23 eId_ok 3 (iV x24.2.2) hx25 (i*4+3),trivial⟩,.v 5 9 (oIr ((useP X i)+x24.2.2)),.v 4 1 (oIr ((i:Int)+1))] ?_
  refine enL ?_
  have hug_:=useP_go hx25
  change ∃n',n'<_∧_
  refine⟨(64-(i+1)),by omega,(i+1),_,rfl,om,(lvF [.k 0 (pV b),.o 3 (oJ .i64 ((useP X i)+x24.2.2) (useP X (i+1))),.o 4 (oJ .i64 ((i:Int)+1) (((i+1):Nat):Int))]),h20⟩
 refine go [.v 3 9 (oF _ c21)]<|up<|g0 ?_
 have hua_:useP X i=used X:=useP_all hP10.2.2.2 (by rw[hP10.1];omega)
 have h28:sat g _ (PlR b X::_):=pr_close hP10 h20
 exact en (iV (useP X i)) [] ⟨_,_,rfl,⟨by rw[hua_],rfl⟩,h28⟩
theorem r10pin_y(b:Nat)(X:Xs)(va:Int)(hv:1≤va∧va≤65536)(hf:used X+va≤1048576):HQ 209 [pV b,iV va] [PlR b X] (.tuple #[.agg #[iV ((pinO X va).1),iV ((pinO X va).2.1),uV ((pinO X va).2.2)],iV (pinE X va)]) [PlR b (pinX X va)]:=by
 refine hiS func209 ntmps209 fun g w0 R h0=>g0<|nP 72 [iV 0,iV 0,uV 0] h0 (fun r10 _ h12=> ?_)
 obtain⟨p16,c17,hP14,h15⟩:=pr_open h12.a.t3
 have hok_:=hP14.2.1
 refine g0<|cl1 call220 (r10v b (iV 1048576) (.slice p16 64 c17)) h15 fun w18 h19=>go [.v 3 1 (oF (va<1)),.v 3 4 (oF (va>65536))] ?_
 have h20:sat g _ (PlR b X::_):=pr_close hP14 h19
 refine lpS (fun mz_ a w=> ∃i:Nat,∃lr:Fr,mz_=64-i∧(i≤64)∧(cnt 0 (As X) i=0)∧a=mk 66 (([(0,pV b),(1,iV va),(4,pV r10),(6,iV (i:Int))]:Fr)++lr)∧sat g w [PlR b X,Cl r10 [iV 0,iV 0,uV 0] 72,R]) (64-0) ⟨0,_,rfl,(Nat.zero_le _),rfl,(lvF [.k 0 (pV b),.k 1 (iV va),.k 4 (pV r10),.o 6 (oJ .i64 0 (0:Int))]),h20⟩ ?_
 rintro m22 a23 w24 ⟨i,lr21,rfl,hi,hc_,rfl,h25⟩
 refine ga ?_
 obtain⟨p28,c29,hP26,h27⟩:=pr_open h25
 have hok_:=hP26.2.1
 refine go [rd 6 4 0 2 1 h27,.v 6 5 (oJ .i64 (64:Int) 64),.s 6 6] ?_
 by_cases c30:(i:Int)<64
 ·
  obtain⟨b31,hp32⟩:=sl_ptr0 (j:=1) h27 rfl om
  refine go [.v 6 6 (oT _ c30),rd 8 3 0 2 1 h27,.s 8 5]<|lwP (.pointer (some ⟨b31,i*4,none⟩)) (liP (Ot 31) (Ot 32) p28 b31 0 (i:Int) 64 c29 underlying289 4 i hp32 (i*4)) ?_
  obtain⟨x33,hx34⟩: ∃x,X[i]? =some x:=⟨_,List.getElem?_eq_getElem (by rw[hP26.1];omega)⟩
  have hb35:=slOk_as hok_ hx34
  refine go [.r 8 6 b31 (i*4) [.bool (decide (x33.1=1)),.bool (decide (x33.1=2)),uV x33.2.1,iV x33.2.2] ⟨gvc 1 h27 rfl hp32 eId_ok 0 (.bool (decide (x33.1=1))) hx34 (i*4),gvc 1 h27 rfl hp32 eId_ok 1 (.bool (decide (x33.1=2))) hx34 (i*4+1),gvc 1 h27 rfl hp32 eId_ok 2 (uV x33.2.1) hx34 (i*4+2),gvc 1 h27 rfl hp32 eId_ok 3 (iV x33.2.2) hx34 (i*4+3),trivial⟩]<|nP 293 [.bool false,.bool false,uV 0,iV 0] h27 (fun r36 _ h38=> ?_)
  refine sA [.bool (decide (x33.1=1)),.bool (decide (x33.1=2)),uV x33.2.1,iV x33.2.2] h38 fun _ h40=>g0<|dw (fls [0,1,2,3,4,5,6,7,8,9,11,13,14,15,16] (Tr.an 10 (fls [12,17,18] Tr.nil))) h40 fun w41 h42=>go [.s 9 1] ?_
  by_cases c43:x33.1=1
  ·
   refine go [(rd 9 1 0 0 1 h42).b (⟨.bool (decide (x33.1=1)),.bool true,(ov_b (decide_eq_true om))⟩)]<|dsk []<|go [.v 7 1 (oIr ((i:Int)+1))] ?_
   refine enL ?_
   have h45:sat g _ (PlR b X::_):=pr_close hP26 h42.b.b.t5
   have h47:=tk3 h45.c.c.b.t4
   change ∃n',n'<_∧_
   refine⟨(64-(i+1)),by omega,(i+1),_,rfl,om,((cnt_no (q:=0) (as_get hx34) (by show ¬x33.1=0;omega)).trans hc_),(lvF [.k 0 (pV b),.k 1 (iV va),.k 4 (pV r10),.o 6 (oJ .i64 ((i:Int)+1) (((i+1):Nat):Int))]),h47⟩
  refine go [(rd 9 1 0 0 1 h42).b (⟨.bool (decide (x33.1=1)),.bool false,(ov_b (decide_eq_false om))⟩),.s 9 5] ?_
  by_cases c48:x33.1=2
  ·
   refine go [(rd 9 5 0 1 1 h42).b (⟨.bool (decide (x33.1=2)),.bool true,(ov_b (decide_eq_true om))⟩)]<|dsk []<|go [.v 7 1 (oIr ((i:Int)+1))] ?_
   refine enL ?_
   have h50:sat g _ (PlR b X::_):=pr_close hP26 h42.b.b.t5
   have h52:=tk3 h50.c.c.b.t4
   change ∃n',n'<_∧_
   refine⟨(64-(i+1)),by omega,(i+1),_,rfl,om,((cnt_no (q:=0) (as_get hx34) (by show ¬x33.1=0;omega)).trans hc_),(lvF [.k 0 (pV b),.k 1 (iV va),.k 4 (pV r10),.o 6 (oJ .i64 ((i:Int)+1) (((i+1):Nat):Int))]),h52⟩
  have h54:sat g _ (PlR b X::_):=pr_close hP26 h42.b.b.t5
  refine go [(rd 9 5 0 1 1 h42).b (⟨.bool (decide (x33.1=2)),.bool false,(ov_b (decide_eq_false om))⟩),rd 9 16 1 1 1 h42]<|cw1 call259 (r10used_ht b X) h54 fun w55 h56=> ?_
  have hu57:=pr_used (j:=0) h56 rfl;have hu57a:=hu57.1;have hu57b:=hu57.2
  obtain⟨p60,c61,hP58,h59⟩:=pr_open h56
  have hok_:=hP58.2.1
  refine⟨kd [rd 0 16 0 1 1 h59],?_⟩
  have h62:sat g _ (PlR b X::_):=pr_close hP58 h59
  refine go [.v 9 12 (oIr ((used X)+va)),.v 9 17 (oT ((used X)+va≤1048576)),rd 10 3 2 2 1 h59]<|cl1 call226 (r10set1_ht b X i x33.2.1 va om om om) h62 fun _ h64=> ?_
  have h65:=h64.b.t4
  refine go [rd 11 2 1 2 1 h64]<|sA [iV 2,iV (i:Int),uV x33.2.1] h65 fun _ h67=>g0<|up<|g0 ?_
  have hf_:(inS 0 (As X) 0)[0]? =some (i,x33.2.1):=by have h_:=inS_at (q:=0) (as_get hx34) (show x33.1=0 by omega);rw[hc_] at h_;exact h_
  have ho_:=pin_ok (X:=X) (v:=va) om (fre_at0 hf_)
  exact en (.tuple #[.agg #[iV 2,iV (i:Int),uV x33.2.1],iV 0]) [rd 0 0 0 0 3 h67] ⟨_,[PlR b (X.set i (1,x33.2.1,va))],rfl,⟨by rw[ho_.1,ho_.2.1],by rw[ho_.2.2]⟩,(tk2 (sf1 (sf3 h67.a.t4)))⟩
 refine go [.v 6 6 (oF _ c30)]<|up ?_
 have h70:=h27.b.t4
 refine g0<|sA [iV 0,iV 0,uV 0] h70 fun w71 h72=>g0 ?_
 have h74:sat g _ (PlR b X::_):=pr_close hP26 h72.b.b.t4
 have ho_:=pin_full (X:=X) (v:=va) om (if_pos (fre_none.2 (free_all (A:=As X) hc_ (by rw[as_len,hP26.1];omega))))
 exact en (.tuple #[.agg #[iV 0,iV 0,uV 0],iV 4]) [rd 0 0 0 0 3 h72] ⟨_,[PlR b X],rfl,⟨by rw[ho_.1,ho_.2.1],by rw[ho_.2.2]⟩,h74.B.t2⟩
theorem r10pin_n(b:Nat)(X:Xs)(va:Int)(hv:1≤va∧va≤65536)(hf:1048576<used X+va):HQ 209 [pV b,iV va] [PlR b X] (.tuple #[.agg #[iV ((pinO X va).1),iV ((pinO X va).2.1),uV ((pinO X va).2.2)],iV (pinE X va)]) [PlR b (pinX X va)]:=by
 refine hiS func209 ntmps209 fun g w0 R h0=>g0<|nP 72 [iV 0,iV 0,uV 0] h0 (fun r10 _ h12=> ?_)
 obtain⟨p16,c17,hP14,h15⟩:=pr_open h12.a.t3
 have hok_:=hP14.2.1
 refine g0<|cl1 call220 (r10v b (iV 1048576) (.slice p16 64 c17)) h15 fun w18 h19=>go [.v 3 1 (oF (va<1)),.v 3 4 (oF (va>65536))] ?_
 have h20:sat g _ (PlR b X::_):=pr_close hP14 h19
 refine lpS (fun mz_ a w=> ∃i:Nat,∃lr:Fr,mz_=64-i∧(i≤64)∧a=mk 66 (([(0,pV b),(1,iV va),(4,pV r10),(6,iV (i:Int))]:Fr)++lr)∧sat g w [PlR b X,Cl r10 [iV 0,iV 0,uV 0] 72,R]) (64-0) ⟨0,_,rfl,(Nat.zero_le _),(lvF [.k 0 (pV b),.k 1 (iV va),.k 4 (pV r10),.o 6 (oJ .i64 0 (0:Int))]),h20⟩ ?_
 rintro m22 a23 w24 ⟨i,lr21,rfl,hi,rfl,h25⟩
 refine ga ?_
 obtain⟨p28,c29,hP26,h27⟩:=pr_open h25
 have hok_:=hP26.2.1
 refine go [rd 6 4 0 2 1 h27,.v 6 5 (oJ .i64 (64:Int) 64),.s 6 6] ?_
 by_cases c30:(i:Int)<64
 ·
  obtain⟨b31,hp32⟩:=sl_ptr0 (j:=1) h27 rfl om
  refine go [.v 6 6 (oT _ c30),rd 8 3 0 2 1 h27,.s 8 5]<|lwP (.pointer (some ⟨b31,i*4,none⟩)) (liP (Ot 31) (Ot 32) p28 b31 0 (i:Int) 64 c29 underlying289 4 i hp32 (i*4)) ?_
  obtain⟨x33,hx34⟩: ∃x,X[i]? =some x:=⟨_,List.getElem?_eq_getElem (by rw[hP26.1];omega)⟩
  have hb35:=slOk_as hok_ hx34
  refine go [.r 8 6 b31 (i*4) [.bool (decide (x33.1=1)),.bool (decide (x33.1=2)),uV x33.2.1,iV x33.2.2] ⟨gvc 1 h27 rfl hp32 eId_ok 0 (.bool (decide (x33.1=1))) hx34 (i*4),gvc 1 h27 rfl hp32 eId_ok 1 (.bool (decide (x33.1=2))) hx34 (i*4+1),gvc 1 h27 rfl hp32 eId_ok 2 (uV x33.2.1) hx34 (i*4+2),gvc 1 h27 rfl hp32 eId_ok 3 (iV x33.2.2) hx34 (i*4+3),trivial⟩]<|nP 293 [.bool false,.bool false,uV 0,iV 0] h27 (fun r36 _ h38=> ?_)
  refine sA [.bool (decide (x33.1=1)),.bool (decide (x33.1=2)),uV x33.2.1,iV x33.2.2] h38 fun _ h40=>g0<|dw (fls [0,1,2,3,4,5,6,7,8,9,11,13,14,15,16] (Tr.an 10 (fls [12,17,18] Tr.nil))) h40 fun w41 h42=>go [.s 9 1] ?_
  by_cases c43:x33.1=1
  ·
   refine go [(rd 9 1 0 0 1 h42).b (⟨.bool (decide (x33.1=1)),.bool true,(ov_b (decide_eq_true om))⟩)]<|dsk []<|go [.v 7 1 (oIr ((i:Int)+1))] ?_
   refine enL ?_
   have h45:sat g _ (PlR b X::_):=pr_close hP26 h42.b.b.t5
   have h47:=tk3 h45.c.c.b.t4
   change ∃n',n'<_∧_
   refine⟨(64-(i+1)),by omega,(i+1),_,rfl,om,(lvF [.k 0 (pV b),.k 1 (iV va),.k 4 (pV r10),.o 6 (oJ .i64 ((i:Int)+1) (((i+1):Nat):Int))]),h47⟩
  refine go [(rd 9 1 0 0 1 h42).b (⟨.bool (decide (x33.1=1)),.bool false,(ov_b (decide_eq_false om))⟩),.s 9 5] ?_
  by_cases c48:x33.1=2
  ·
   refine go [(rd 9 5 0 1 1 h42).b (⟨.bool (decide (x33.1=2)),.bool true,(ov_b (decide_eq_true om))⟩)]<|dsk []<|go [.v 7 1 (oIr ((i:Int)+1))] ?_
   refine enL ?_
   have h50:sat g _ (PlR b X::_):=pr_close hP26 h42.b.b.t5
   have h52:=tk3 h50.c.c.b.t4
   change ∃n',n'<_∧_
   refine⟨(64-(i+1)),by omega,(i+1),_,rfl,om,(lvF [.k 0 (pV b),.k 1 (iV va),.k 4 (pV r10),.o 6 (oJ .i64 ((i:Int)+1) (((i+1):Nat):Int))]),h52⟩
  have h54:sat g _ (PlR b X::_):=pr_close hP26 h42.b.b.t5
  refine go [(rd 9 5 0 1 1 h42).b (⟨.bool (decide (x33.1=2)),.bool false,(ov_b (decide_eq_false om))⟩),rd 9 16 1 1 1 h42]<|cw1 call259 (r10used_ht b X) h54 fun w55 h56=> ?_
  have hu57:=pr_used (j:=0) h56 rfl;have hu57a:=hu57.1;have hu57b:=hu57.2
  obtain⟨p60,c61,hP58,h59⟩:=pr_open h56
  have hok_:=hP58.2.1
  refine⟨kd [rd 0 16 0 1 1 h59],?_⟩
  refine go [.v 9 12 (oIr ((used X)+va)),.v 9 17 (oF ((used X)+va≤1048576)),.v 7 1 (oIr ((i:Int)+1))] ?_
  refine enL ?_
  have h62:sat g _ (PlR b X::_):=pr_close hP58 h59
  have h64:=tk3 h62.c.c.b.t4
  change ∃n',n'<_∧_
  refine⟨(64-(i+1)),by omega,(i+1),_,rfl,om,(lvF [.k 0 (pV b),.k 1 (iV va),.k 4 (pV r10),.o 6 (oJ .i64 ((i:Int)+1) (((i+1):Nat):Int))]),h64⟩
 refine go [.v 6 6 (oF _ c30)]<|up ?_
 have h65:=h27.b.t4
 refine g0<|sA [iV 0,iV 0,uV 0] h65 fun w66 h67=>g0 ?_
 have h69:sat g _ (PlR b X::_):=pr_close hP26 h67.b.b.t4
 have ho_:=pin_much (X:=X) (v:=va) om
 exact en (.tuple #[.agg #[iV 0,iV 0,uV 0],iV 4]) [rd 0 0 0 0 3 h67] ⟨_,[PlR b X],rfl,⟨by rw[ho_.1,ho_.2.1],by rw[ho_.2.2]⟩,h69.B.t2⟩
theorem r10find_ht(b:Nat)(X:Xs)(y z:Int)(hT:(As X)[y.toNat]? =some (1,z))(hy:0≤y∧y≤63):HQ 225 [pV b,.agg #[iV 2,iV y,uV z]] [PlR b X] (iV 0) [PlR b X]:=by
 refine hiS func225 ntmps225 fun g w0 R h0=>g0<|nP 72 [iV 2,iV y,uV z] h0 (fun r10 _ h12=> ?_)
 obtain⟨p16,c17,hP14,h15⟩:=pr_open h12.a.t3
 have hok_:=hP14.2.1
 refine g0<|cl1 call220 (r10v b (iV 1048576) (.slice p16 64 c17)) h15 fun _ h19=>go [rd 3 1 2 0 1 h19]<|dw (fls [0,1,2,3,4,5,6,7,8,9,10,11,12] Tr.nil) h19 fun _ h21=>go [rd 5 1 2 1 1 h21,.v 5 2 (oF (y<0)),rd 5 5 2 1 1 h21,rd 5 9 0 2 1 h21,.v 5 10 (oJ .i64 (64:Int) 64),.v 5 11 (oF (y≥64))]<|dw (fls [0,1,2,3,4,5,6,7,8,9,10,11,12,13,14,15,16,17,18,19,20,21,22,23] Tr.nil) h21 fun w22 h23=> ?_
 obtain⟨b24,hp25⟩:=sl_ptr0 (j:=1) h23 rfl om
 obtain⟨kk26,hk27⟩: ∃z_:Nat,y=(z_:Int):=⟨(y).toNat,by omega⟩
 refine go [rd 7 3 0 2 1 h23,rd 7 5 2 1 1 h23,.s 7 6]<|lw (.pointer (some ⟨b24,kk26*4,none⟩)) (fun _=>liP (Ot 27) (Ot 29) p16 b24 0 y 64 c17 underlying289 4 kk26 hp25 (kk26*4)) ?_
 obtain⟨x28,hx29⟩: ∃x,X[kk26]? =some x:=⟨_,List.getElem?_eq_getElem (by rw[hP14.1];omega)⟩
 have hb30:=slOk_as hok_ hx29
 have hq31:=thr_x hT om hx29;have hq31a:=hq31.1;have hq31b:=hq31.2
 refine go [(Iq.r 7 8 b24 (kk26*4) [.bool (decide (x28.1=1))] ⟨gvc 1 h23 rfl hp25 eId_ok 0 (.bool (decide (x28.1=1))) hx29 (kk26*4),trivial⟩).b (⟨.bool (decide (x28.1=1)),.bool true,(ov_b (decide_eq_true om))⟩),rd 7 14 0 2 1 h23,rd 7 16 2 1 1 h23,.s 7 17]<|lw (.pointer (some ⟨b24,kk26*4,none⟩)) (fun _=>liP (Ot 38) (Ot 40) p16 b24 0 y 64 c17 underlying289 4 kk26 hp25 (kk26*4))<|go [.r 7 19 b24 (kk26*4+2) [uV x28.2.1] ⟨gvc 1 h23 rfl hp25 eId_ok 2 (uV x28.2.1) hx29 (kk26*4+2),trivial⟩,rd 7 21 2 2 1 h23,.v 7 22 (qnF x28.2.1 z)] ?_
 have h32:sat g _ (PlR b X::_):=pr_close hP14 h23
 exact enR _ [] h32.B.t2
theorem r10unpin_ht(b:Nat)(X:Xs)(y z:Int)(hT:(As X)[y.toNat]? =some (1,z))(hy:0≤y∧y≤63)(hz_:1≤z∧z≤4294967295):HQ 178 [pV b,.agg #[iV 2,iV y,uV z]] [PlR b X] (iV 0) [PlR b (giv X (2,y,z))]:=by
 refine hiS func178 ntmps178 fun g w0 R h0=>g0<|nP 72 [iV 2,iV y,uV z] h0 (fun _ _ h12=> ?_)
 have h13:=h12.a.t3
 refine go [rd 1 1 0 0 3 h12]<|cl1 call225 (r10find_ht b X y z hT om) h13 fun _ h15=>go [rd 4 1 1 2 1 h15,.s 4 2] ?_
 by_cases c16:z=4294967295
 ·
  obtain⟨kk17,hk18⟩: ∃z_:Nat,y=(z_:Int):=⟨(y).toNat,by omega⟩
  refine go [.v 4 2 (qeT _ _ c16),rd 5 2 1 1 1 h15,rd 5 4 1 2 1 h15]<|cl1 call226 (by have h_:=r10set2_ht b X kk17 z om om;rw[show (kk17:Int)=y from by omega] at h_;exact h_) h15 fun _ h20=> ?_
  refine g0 ?_
  have hg_:giv X ((2,y,z):Ky)=X.set kk17 (2,z,0):=by unfold giv;show X.set y.toNat (shut z)=_;rw[show y.toNat=kk17 by omega];unfold shut;rw[if_neg om]
  exact en (iV 0) [] ⟨_,[PlR b (X.set kk17 (2,z,0))],rfl,⟨rfl,by rw[hg_]⟩,h20.B.t2⟩
 obtain⟨kk22,hk23⟩: ∃z_:Nat,y=(z_:Int):=⟨(y).toNat,by omega⟩
 refine go [.v 4 2 (qeF _ _ c16),rd 6 2 1 1 1 h15,rd 6 4 1 2 1 h15,.v 6 5 (oUr (z+1))]<|cl1 call226 (by have h_:=r10set0_ht b X kk22 (z+1) om om;rw[show (kk22:Int)=y from by omega] at h_;exact h_) h15 fun _ h25=> ?_
 refine g0 ?_
 have hg_:giv X ((2,y,z):Ky)=X.set kk22 (0,z+1,0):=by unfold giv;show X.set y.toNat (shut z)=_;rw[show y.toNat=kk22 by omega];unfold shut;rw[if_pos om]
 exact en (iV 0) [] ⟨_,[PlR b (X.set kk22 (0,z+1,0))],rfl,⟨rfl,by rw[hg_]⟩,h25.B.t2⟩
theorem r10all_ht(b:Nat)(X:Xs):HT prog 269 [pV b] [PlR b X] (fun v K=> ∃(p:Option Addr) (c:Nat),v= .slice p ((inS 1 (As X) 0).length) c∧K= [PlR b X,Sl 72 3 p ((inS 1 (As X) 0).length) c (fl eO (allK 2 X))]):=by
 refine hiS func269 ntmps269 fun g w0 R h0=>g0 ?_
 obtain⟨p12,c13,hP10,h11⟩:=pr_open h0
 have hok_:=hP10.2.1
 have h14:sat g _ (Sl 72 3 none 0 0 (fl eO [])::_):=sl_nil 72 3 h11
 refine lpS (fun mz_ a w=> ∃i:Nat,∃k:Nat,∃p2:Option Addr,∃c2:Nat,∃lr:Fr,mz_=64-i∧(i≤64)∧(k≤i)∧a=mk 40 (([(0,pV b),(3,.slice p2 k c2),(4,iV (i:Int))]:Fr)++lr)∧sat g w [Sl 72 3 p2 k c2 (fl eO (allKT 2 X i)),Cl b [.bool true,iV 1048576,.slice p12 64 c13] 291,Sl 293 4 p12 64 c13 (fl eId X),R]) (64-0) ⟨0,0,none,0,_,rfl,(Nat.zero_le _),(Nat.le_refl _),(lvF [.k 0 (pV b),.k 3 (.slice none 0 0),.o 4 (oJ .i64 0 (0:Int))]),h14⟩ ?_
 rintro m16 a17 w18 ⟨i,k,p2,c2,lr15,rfl,hi,hk,rfl,h19⟩
 refine ga ?_
 have h20:=h19.a.t4
 refine g0<|cl1 call220 (r10v b (iV 1048576) (.slice p12 64 c13)) h20 fun w21 h22=>go [rd 3 7 0 2 1 h22,.v 3 8 (oJ .i64 (64:Int) 64),.s 3 9] ?_
 by_cases c23:(i:Int)<64
 ·
  obtain⟨b24,hp25⟩:=sl_ptr0 (j:=2) h22 rfl om
  refine go [.v 3 9 (oT _ c23),rd 5 3 0 2 1 h22,.s 5 5]<|lwP (.pointer (some ⟨b24,i*4,none⟩)) (liP (Ot 21) (Ot 22) p12 b24 0 (i:Int) 64 c13 underlying289 4 i hp25 (i*4)) ?_
  obtain⟨x26,hx27⟩: ∃x,X[i]? =some x:=⟨_,List.getElem?_eq_getElem (by rw[hP10.1];omega)⟩
  have hb28:=slOk_as hok_ hx27
  refine go [.s 5 7] ?_
  by_cases c29:x26.1=1
  ·
   refine go [(Iq.r 5 7 b24 (i*4) [.bool (decide (x26.1=1))] ⟨gvc 2 h22 rfl hp25 eId_ok 0 (.bool (decide (x26.1=1))) hx27 (i*4),trivial⟩).b (⟨.bool (decide (x26.1=1)),.bool true,(ov_b (decide_eq_true om))⟩),rd 6 5 0 2 1 h22,.s 6 7]<|lwP (.pointer (some ⟨b24,i*4,none⟩)) (liP (Ot 31) (Ot 32) p12 b24 0 (i:Int) 64 c13 underlying289 4 i hp25 (i*4))<|go [.r 6 9 b24 (i*4+2) [uV x26.2.1] ⟨gvc 2 h22 rfl hp25 eId_ok 2 (uV x26.2.1) hx27 (i*4+2),trivial⟩]<|nG (fun q_=> .slice (some ⟨q_,0,none⟩) 1 1) 72 [iV 2,iV (i:Int),uV x26.2.1] h22 (fun r30 _ h32=>⟨kd [],?_⟩)
   have h33:=h32.b.t5
   refine actG ?_
   refine aA 38 3 (Ot 26) (Ot 37) (.agg #[iV 0,iV 0,uV 0]) p2 k c2 1 1 (⟨r30,0,none⟩) 24 underlying314 h33 (fl eO [(2,(i:Int),x26.2.1)]) rfl (cell1 h33 rfl) (fl_one eO_ok _) (k+1) ?_
   intro p34 cap35 w36 h37
   have h38:sat g _ (Sl 72 3 p34 (k+1) cap35 (fl eO ((allKT 2 X i)++ [(2,(i:Int),x26.2.1)]))::_):=sJ h37
   obtain⟨hn39,hn40⟩:=sl_le h38
   refine nxA<|go [.v 4 1 (oIr ((i:Int)+1))] ?_
   refine enL ?_
   have h41:sat g _ (Sl 72 3 p34 (k+1) cap35 (fl eO (allKT 2 X (i+1)))::_):=sat_imp h38 (fun _ hh_=>by rw[show (((allKT 2 X i)++ [(2,(i:Int),x26.2.1)]):List Ky)=(allKT 2 X (i+1)) from akT_go hx27 om] at hh_;exact hh_)
   have h43:=tk4 h41.d.d.d.c.t5
   change ∃n',n'<_∧_
   refine⟨(64-(i+1)),by omega,(i+1),k+1,p34,cap35,_,rfl,om,om,(lvF [.k 0 (pV b),.k 3 (.slice p34 (k+1) cap35),.o 4 (oJ .i64 ((i:Int)+1) (((i+1):Nat):Int))]),h43⟩
  refine go [(Iq.r 5 7 b24 (i*4) [.bool (decide (x26.1=1))] ⟨gvc 2 h22 rfl hp25 eId_ok 0 (.bool (decide (x26.1=1))) hx27 (i*4),trivial⟩).b (⟨.bool (decide (x26.1=1)),.bool false,(ov_b (decide_eq_false om))⟩),.v 4 1 (oIr ((i:Int)+1))] ?_
  refine enL ?_
  have h45:sat g _ (Sl 72 3 p2 k c2 (fl eO (allKT 2 X (i+1)))::_):=sat_imp h22.a.t4 (fun _ hh_=>by rw[show ((allKT 2 X i):List Ky)=(allKT 2 X (i+1)) from akT_no hx27 om] at hh_;exact hh_)
  change ∃n',n'<_∧_
  refine⟨(64-(i+1)),by omega,(i+1),k,p2,c2,_,rfl,om,om,(lvF [.k 0 (pV b),.k 3 (.slice p2 k c2),.o 4 (oJ .i64 ((i:Int)+1) (((i+1):Nat):Int))]),h45⟩
 refine go [.v 3 9 (oF _ c23)]<|up<|g0 ?_
 have h47:sat g _ (Sl 72 3 p2 k c2 (fl eO (allK 2 X))::_):=sat_imp h22.a.t4 (fun _ hh_=>by rw[show ((allKT 2 X i):List Ky)=(allK 2 X) from (akT_all (by rw[hP10.1];omega))] at hh_;exact hh_)
 have hl48:=fl_n eO_ok dc h47
 have hk_:k=((inS 1 (As X) 0).length):=by have h_:=allK_len 2 X;omega
 have h49:sat g _ (Sl 72 3 p2 ((inS 1 (As X) 0).length) c2 (fl eO (allK 2 X))::_):=sat_imp h47 (fun _ hh_=>by rw[←hk_];exact hh_)
 have h51:sat g _ (PlR b X::_):=pr_close hP10 h49.b.b.t4
 exact en (.slice p2 k c2) [] ⟨_,_,rfl,⟨p2,c2,by rw[hk_],rfl⟩,h51⟩
theorem r10copy_ht(b:Nat)(X:Xs):HT prog 167 [pV b] [PlR b X] (fun v K=> ∃b2:Nat,v=pV b2∧K= [PlR b X,PlR b2 X]):=by
 refine hiS func167 ntmps167 fun g w0 R h0=> ?_
 obtain⟨p12,c13,hP10,h11⟩:=pr_open h0
 have hok_:=hP10.2.1
 refine g0<|cl1 call220 (r10v b (iV 1048576) (.slice p12 64 c13)) h11 fun _ h15=>g0<|dw (fls [0,1,2,3,5,6,7,8] (Tr.an 4 (Tr.an 9 (Tr.fl 10 (Tr.an 11 (Tr.fl 12 Tr.nil)))))) h15 fun _ h17=>go [rd 3 3 0 1 1 h17,rd 3 8 0 2 1 h17]<|nG (fun q_=> .slice (some ⟨q_,0,none⟩) 0 0) 293 [] h17 (fun r18 w19 h20=>⟨kd [rd 0 8 1 2 1 h20,rd 0 3 1 1 1 h20],?_⟩)
 have h21:sat g _ (Sl 293 4 (some ⟨r18,0,none⟩) 0 0 (fl eId [])::_):=sl_of_cl h20 rfl om
 refine actG ?_
 refine aG 15 4 (Ot 10) (Ot 14) (.agg #[.bool false,.bool false,uV 0,iV 0]) (some ⟨r18,0,none⟩) p12 0 0 64 c13 16 underlying289 h21 2 rfl (fl eId X) (gv_sl _ _ _) (by rw[fl_len eId_ok,hP10.1]) (fl_one eId_ok _) 64 ?_
 intro p22 cap23 w24 h25
 have h26:sat g _ (Sl 293 4 p22 64 cap23 (fl eId X)::_):=sI h25
 obtain⟨hn27,hn28⟩:=sl_le h26
 refine⟨kd [rd 0 3 1 1 1 h26],nxG ?_⟩
 refine g0<|nG (fun q_=>pV q_) 291 [.bool true,iV 1048576,.slice p22 64 cap23] h26 (fun r29 w30 h31=>⟨kd [],?_⟩)
 refine g0 ?_
 have h33:sat g _ (PlR b X::_):=pr_close hP10 h31.c.c.t5
 have h35:sat g _ (PlR r29 X::_):=pr_close hP10 h33.b.b.t4
 exact en (pV r29) [] ⟨_,_,rfl,⟨r29,rfl,rfl⟩,h35.a.t3⟩
theorem r11span_ht(tk:Int)(h:1≤tk∧tk≤1048576):HQ 260 [iV tk] [] (.bool true) []:=by
 refine hiS func260 ntmps260 fun g w0 R h0=>go [.v 1 1 (oT (tk≥1)),.v 1 4 (oT (tk≤1048576))] ?_
 exact enR _ [] h0
theorem r11time_ht(tk:Int)(h:0≤tk∧tk≤1099511627776):HQ 261 [iV tk] [] (.bool true) []:=by
 refine hiS func261 ntmps261 fun g w0 R h0=>go [.v 1 1 (oT (tk≥0)),.v 1 4 (oT (tk≤1099511627776))] ?_
 exact enR _ [] h0
theorem r11new_ht(gn:Int)(hgn:1≤gn∧gn≤4294967295):HT prog 132 [iV 64,uV gn] [] (fun v K=> ∃b:Nat,v= .tuple #[pV b,iV 0]∧K= [DkR b (List.replicate 64 (0,gn,0))]):=by
 refine hiS func132 ntmps132 fun g w0 R h0=>g0<|cP call128 (r4new_ht gn om) h0 ?_
 rintro v K _ (⟨b10,rfl,rfl⟩) h12
 have h13:=ap1 h12
 refine g0 ?_
 refine actG ?_
 refine an_make (k1:= .i64) (k2:= .i64) (d:=24) (x:=Ot 23) (y:=Ot 23) (z:=iV 0) (sz:=1) (by_:=8) (zi:=64) kr kr rfl underlying294 kr 64 om kr kr om om h13 (fl eI (List.replicate 64 0)) kr ?_
 intro r14 w15 h16
 obtain⟨p17,hp18⟩: ∃p:Option Addr,p=some ⟨r14,0,none⟩:=⟨_,rfl⟩
 have h19:sat g w15 [Sl 2 1 p17 64 64 (fl eI (List.replicate 64 0)),StR b10 (List.replicate 64 (0,gn)),R]:=by rw[hp18];exact sl_of_cl h16 (by rw[fl_len eI_ok,List.length_replicate]) om
 rw[←hp18]
 refine nxA<|g0<|nP 296 [.bool true,pV b10,.slice p17 64 64] h19 (fun r20 w21 h22=> ?_)
 refine g0 ?_
 have h24:sat g _ (StR b10 (As (List.replicate 64 (0,gn,0)))::_):=sat_imp h22.b.t4 (fun _ hh_=>by rw[show (List.replicate 64 (0,gn))=(As (List.replicate 64 (0,gn,0))) from as_rep 64 gn 0] at hh_;exact hh_)
 have h27:sat g _ (DkR r20 (List.replicate 64 (0,gn,0))::_):=dr_close (V:=List.replicate 64 0) ⟨List.length_replicate,vals_new⟩ (tk4 (sf3 (sf2 (sf1 (sf3 h24.b.t4)))))
 exact en (.tuple #[pV r20,iV 0]) [] ⟨_,_,rfl,⟨r20,rfl,rfl⟩,h27⟩
theorem r11grant_ht(b:Nat)(X:Xs)(tk nw:Int)(ht:1≤tk∧tk≤1048576)(hn:0≤nw∧nw≤1099511627776):HQ 210 [pV b,iV tk,iV nw] [DkR b X] (.tuple #[.agg #[iV ((gntO X tk nw).1),iV ((gntO X tk nw).2.1),uV ((gntO X tk nw).2.2)],iV (gntE X tk nw)]) [DkR b (gntX X tk nw)]:=by
 refine hiS func210 ntmps210 fun g w0 R h0=>g0<|nP 72 [iV 0,iV 0,uV 0] h0 (fun r10 _ h12=> ?_)
 obtain⟨s16,p17,c18,V19,hP14,h15⟩:=dr_open h12.a.t3
 refine g0<|cl1 call221 (r11v b (pV s16) (.slice p17 64 c18)) h15 fun _ h21=>g0<|cl0 call260 (r11span_ht tk om) h21 fun _ h23=>g0<|cl0 call261 (r11time_ht nw om) h23 fun _ h25=>go [.v 5 2 (oIr (nw+tk)),.s 5 3] ?_
 by_cases c26:nw+tk>1099511627776
 ·
  have h27:=h25.c.t5
  refine go [.v 5 3 (oT _ c26)]<|sA [iV 0,iV 0,uV 0] h27 fun w28 h29=>g0 ?_
  have ho_:=gnt_over (X:=X) (t:=tk) (now:=nw) om
  have h31:sat g _ (DkR b X::_):=dr_close hP14 h29.c.c.c.t5
  exact en (.tuple #[.agg #[iV 0,iV 0,uV 0],iV 17]) [rd 0 0 0 0 3 h29] ⟨_,[DkR b X],rfl,⟨by rw[ho_.1,ho_.2.1],by rw[ho_.2.2]⟩,h31.B.t2⟩
 refine go [.v 5 3 (oF _ c26),rd 7 3 0 1 1 h25] ?_
 by_cases c33:(takeV (As X)).2.2=0
 ·
  refine cl1 call212 (r4take_ht s16 (As X)) h25.a.t5 fun _ h36=> ?_
  obtain⟨htk_,ti_,tg_,tu_,hfr_,hxi_,hti_,htg_,hta_⟩:=take_free (X:=X) (v:=nw+tk) om
  have htl_:ti_<64:=by have h_:=(List.getElem?_eq_some_iff.1 hxi_).1;rw[hP14.1] at h_;exact h_
  refine g0<|nP 148 [iV 0,uV 0] h36 (fun r37 _ h39=> ?_)
  refine sA [iV ((takeV (As X)).1),uV ((takeV (As X)).2.1)] h39 fun _ h41=>go [.v 8 1 (qnF ((takeV (As X)).2.2) 0)]<|dw (fls [0,1,2,3,4,5,6,7,8,9] (Tr.an 10 Tr.nil)) h41 fun _ h43=> ?_
  obtain⟨b44,hp45⟩:=sl_ptr0 (j:=3) h43 rfl om
  obtain⟨kk46,hk47⟩: ∃z_:Nat,(takeV (As X)).1=(z_:Int):=⟨((takeV (As X)).1).toNat,by omega⟩
  refine go [rd 10 3 2 2 1 h43,rd 10 5 0 0 1 h43,.v 10 8 (oIr (nw+tk)),.s 10 9]<|lw (.pointer (some ⟨b44,kk46,none⟩)) (fun _=>liP (Ot 42) (Ot 44) p17 b44 0 ((takeV (As X)).1) 64 c18 underlying294 1 kk46 hp45 kk46) ?_
  have h48:=h43.c.t6
  refine actG ?_
  obtain⟨x51,hx52⟩: ∃x,V19[kk46]? =some x:=⟨_,List.getElem?_eq_getElem (by rw[hP14.2.1];omega)⟩
  refine an_storeSl (b:=b44) [(kk46,iV (nw+tk))] (cs':=(fl eI (V19.set kk46 (nw+tk)))) kr kr hp45 (allq ⟨⟨by omega,rfl⟩,trivial⟩) om (fl_upd eI_ok (i:=kk46) (x:=x51) (y:=(nw+tk)) hx52 [(0,iV (nw+tk))] rfl rfl (by simp)) h48 ?_
  intro _ h50
  refine⟨kd [],nxN ?_⟩
  have h53:=h50.d.t6
  refine go [rd 11 1 1 0 1 h50,rd 11 3 1 1 1 h50]<|sA [iV 3,iV ((takeV (As X)).1),uV ((takeV (As X)).2.1)] h53 fun w54 h55=>g0 ?_
  have ho_:=gnt_ok (X:=X) (t:=tk) (now:=nw) om hfr_;have hki_:kk46=ti_:=by omega
  have h57:sat g _ (StR s16 (As (gntX X tk nw))::_):=sat_imp h55.c.t6 (fun _ hh_=>by rw[show (takeA (As X))=(As (gntX X tk nw)) from (by rw[hta_,ho_.2.2])] at hh_;exact hh_)
  have h59:sat g _ (Sl 2 1 p17 64 c18 (fl eI (V19.set ti_ (nw+tk)))::_):=sat_imp h57.b.t6 (fun _ hh_=>by rw[show ((V19.set kk46 (nw+tk)):List Int)=(V19.set ti_ (nw+tk)) from (by rw[hki_])] at hh_;exact hh_)
  have h61:sat g _ (DkR b (gntX X tk nw)::_):=dr_close (by rw[ho_.2.2];exact dk_set hP14 htl_) h59.a.d.t6
  exact en (.tuple #[.agg #[iV 3,iV ((takeV (As X)).1),uV ((takeV (As X)).2.1)],iV 0]) [rd 0 0 0 0 3 h55] ⟨_,_,rfl,⟨by rw[ho_.1,ho_.2.1];simp only[hti_,htg_],rfl⟩,h61.c.a.t2⟩
 refine cl1 call212 (r4take_ht s16 (As X)) h25.a.t5 fun _ h65=>g0<|nP 148 [iV 0,uV 0] h65 (fun r66 _ h68=> ?_)
 refine sA [iV ((takeV (As X)).1),uV ((takeV (As X)).2.1)] h68 fun _ h70=> ?_
 have h71:=h70.d.t6
 refine go [.v 8 1 (qnT ((takeV (As X)).2.2) 0)]<|sA [iV 0,iV 0,uV 0] h71 fun w72 h73=>g0 ?_
 have hfu_:=take_full (X:=X) om;have ho_:=gnt_full (X:=X) (t:=tk) (now:=nw) om hfu_.1
 have h75:sat g _ (StR s16 (As X)::_):=sat_imp h73.b.t6 (fun _ hh_=>by rw[show (takeA (As X))=(As X) from hfu_.2.2] at hh_;exact hh_)
 have h77:sat g _ (DkR b X::_):=dr_close hP14 h75.d.a.d.t6
 exact en (.tuple #[.agg #[iV 0,iV 0,uV 0],iV 4]) [rd 0 0 0 0 3 h73] ⟨_,[DkR b X],rfl,⟨by rw[ho_.1,ho_.2.1],by rw[ho_.2.2]⟩,h77.c.a.t2⟩
theorem r11chk_ht(b:Nat)(X:Xs)(y z:Int)(hT:(As X)[y.toNat]? =some (1,z))(hy:0≤y∧y≤63)(hz_:1≤z∧z≤4294967295):HQ 227 [pV b,.agg #[iV 3,iV y,uV z],.bool false] [DkR b X] (iV 0) [DkR b X]:=by
 refine hiS func227 ntmps227 fun g w0 R h0=>g0<|nP 72 [iV 3,iV y,uV z] h0 (fun r10 _ h12=> ?_)
 obtain⟨s16,p17,c18,V19,hP14,h15⟩:=dr_open h12.a.t3
 refine g0<|cl1 call221 (r11v b (pV s16) (.slice p17 64 c18)) h15 fun _ h21=>go [rd 3 3 3 0 1 h21,rd 3 7 3 0 3 h21]<|cl0 call173 (dcouter_ok 3 y z om om om) h21 fun _ h23=>g0<|dw (fls [0,1,2,3,4,5,6,7,8] (Tr.an 9 (Tr.fl 10 Tr.nil))) h23 fun _ h25=> ?_
 have h26:=h25.a.t5
 refine go [rd 5 3 0 1 1 h25,rd 5 5 3 1 1 h25,rd 5 7 3 2 1 h25]<|cw1 call264 (r4chk_ht s16 (As X) y z hT om) h26 fun w27 h28=>⟨kd [],?_⟩
 refine g0 ?_
 have h30:sat g _ (DkR b X::_):=dr_close hP14 h28.a.t5
 exact enR _ [] h30.B.t2
theorem r11ret_ht(b:Nat)(X:Xs)(y z:Int)(hT:(As X)[y.toNat]? =some (1,z))(hy:0≤y∧y≤63)(hz_:1≤z∧z≤4294967295):HQ 179 [pV b,.agg #[iV 3,iV y,uV z]] [DkR b X] (iV 0) [DkR b (giv X ((3,y,z):Ky))]:=by
 refine hiS func179 ntmps179 fun g w0 R h0=>g0<|nP 72 [iV 3,iV y,uV z] h0 (fun r10 _ h12=> ?_)
 have h13:=h12.a.t3
 refine go [rd 1 1 0 0 3 h12]<|cl1 call227 (r11chk_ht b X y z hT om om) h13 fun _ h15=>g0<|dw (fls [0,1,2,3,4,5,6,7,8] (Tr.an 9 (Tr.fl 10 Tr.nil))) h15 fun _ h17=> ?_
 obtain⟨s20,p21,c22,V23,hP18,h19⟩:=dr_open h17
 have h24:=h19.a.t5
 refine go [rd 4 3 0 1 1 h19,rd 4 5 3 1 1 h19,rd 4 7 3 2 1 h19]<|cw1 call216 (r4give_ht s20 (As X) y z hT om om) h24 fun w25 h26=>⟨kd [],?_⟩
 refine g0 ?_
 have h27:sat g _ (StR s20 (As (giv X ((3,y,z):Ky)))::_):=sat_imp h26 (fun _ hh_=>by rw[show (giveA (As X) y.toNat z)=(As (giv X ((3,y,z):Ky))) from (giveA_giv X ((3,y,z):Ky) (by show y=_;omega))] at hh_;exact hh_)
 have h29:sat g _ (DkR b (giv X ((3,y,z):Ky))::_):=dr_close (dk_giv (o:=((3,y,z):Ky)) hP18) h27.a.t5
 exact enR _ [] h29.B.t2
theorem r11all_ht(b:Nat)(X:Xs):HT prog 270 [pV b] [DkR b X] (fun v K=> ∃(p:Option Addr) (c:Nat),v= .slice p ((inS 1 (As X) 0).length) c∧K= [DkR b X,Sl 72 3 p ((inS 1 (As X) 0).length) c (fl eO (allK 3 X))]):=by
 refine hiS func270 ntmps270 fun g w0 R h0=> ?_
 obtain⟨s12,p13,c14,V15,hP10,h11⟩:=dr_open h0
 refine g0<|cl1 call221 (r11v b (pV s12) (.slice p13 64 c14)) h11 fun _ h17=> ?_
 have h20:=h17.a.t4
 refine go [rd 4 3 0 1 1 h17]<|cP call288 (r4tkn_ht s12 (As X)) h20 ?_
 rintro v K w21 (⟨p18,c19,rfl,rfl⟩) h22
 have h23:=ap2 h22
 have hnl_:((inS 1 (As X) 0).length)≤64:=by have h_:=inS_len 1 (As X) 0;rw[as_len,hP10.1] at h_;exact h_
 refine g0 ?_
 have h24:sat g _ (Sl 72 3 none 0 0 (fl eO [])::_):=sl_nil 72 3 h23
 refine lpS (fun mz_ a w=> ∃i:Nat,∃k:Nat,∃p2:Option Addr,∃c2:Nat,∃lr:Fr,mz_=((inS 1 (As X) 0).length)-i∧(i≤((inS 1 (As X) 0).length))∧(k≤i)∧a=mk 35 (([(3,.slice p2 k c2),(4,.slice p18 ((inS 1 (As X) 0).length) c19),(5,iV (i:Int))]:Fr)++lr)∧sat g w [Sl 72 3 p2 k c2 (fl eO (((inS 1 (As X) 0).take i).map ky3)),StR s12 (As X),Sl 148 2 p18 ((inS 1 (As X) 0).length) c19 (fl eRf (inS 1 (As X) 0)),Cl b [.bool true,pV s12,.slice p13 64 c14] 296,Sl 2 1 p13 64 c14 (fl eI V15),R]) (((inS 1 (As X) 0).length)-0) ⟨0,0,none,0,_,rfl,(Nat.zero_le _),(Nat.le_refl _),(lvF [.k 3 (.slice none 0 0),.k 4 (.slice p18 ((inS 1 (As X) 0).length) c19),.o 5 (oJ .i64 0 (0:Int))]),h24⟩ ?_
 rintro m26 a27 w28 ⟨i,k,p2,c2,lr25,rfl,hi,hk,rfl,h29⟩
 refine ga<|go [.s 6 3] ?_
 by_cases c30:(i:Int)<(((inS 1 (As X) 0).length:Nat):Int)
 ·
  refine go [.v 6 3 (oT _ c30)]<|dw (fls [0,1,2,3,4,5,6,7,8,9,10,11] (Tr.an 12 (Tr.an 13 (Tr.fl 14 Tr.nil)))) h29 fun _ h32=> ?_
  obtain⟨b33,hp34⟩:=sl_ptr0 (j:=2) h32 rfl om
  refine go [.s 8 3]<|lw (.pointer (some ⟨b33,i*2,none⟩)) (fun _=>liP (Ot 21) (Ot 22) p18 b33 0 (i:Int) ((inS 1 (As X) 0).length) c19 underlying375 2 i hp34 (i*2)) ?_
  obtain⟨x35,hx36⟩: ∃x,(inS 1 (As X) 0)[i]? =some x:=⟨_,List.getElem?_eq_getElem om⟩
  refine go [.r 8 5 b33 (i*2) [iV (x35.1:Int)] ⟨gvc 2 h32 rfl hp34 eRf_ok 0 (iV (x35.1:Int)) hx36 (i*2),trivial⟩,.s 8 8]<|lw (.pointer (some ⟨b33,i*2,none⟩)) (fun _=>liP (Ot 26) (Ot 27) p18 b33 0 (i:Int) ((inS 1 (As X) 0).length) c19 underlying375 2 i hp34 (i*2))<|go [.r 8 10 b33 (i*2+1) [uV x35.2] ⟨gvc 2 h32 rfl hp34 eRf_ok 1 (uV x35.2) hx36 (i*2+1),trivial⟩]<|nG (fun q_=> .slice (some ⟨q_,0,none⟩) 1 1) 72 [iV 3,iV (x35.1:Int),uV x35.2] h32 (fun r37 _ h39=>⟨kd [],?_⟩)
  have h40:=h39.a.t7
  refine actG ?_
  refine aA 33 3 (Ot 20) (Ot 32) (.agg #[iV 0,iV 0,uV 0]) p2 k c2 1 1 (⟨r37,0,none⟩) 24 underlying314 h40 (fl eO [(3,(x35.1:Int),x35.2)]) rfl (cell1 h40 rfl) (fl_one eO_ok _) (k+1) ?_
  intro p41 cap42 w43 h44
  have h45:sat g _ (Sl 72 3 p41 (k+1) cap42 (fl eO ((((inS 1 (As X) 0).take i).map ky3)++ [(3,(x35.1:Int),x35.2)]))::_):=sJ h44
  obtain⟨hn46,hn47⟩:=sl_le h45
  refine⟨kd [],nxG ?_⟩
  refine go [.v 7 1 (oIr ((i:Int)+1))] ?_
  refine enL ?_
  have h48:sat g _ (Sl 72 3 p41 (k+1) cap42 (fl eO (((inS 1 (As X) 0).take (i+1)).map ky3))::_):=sat_imp h45 (fun _ hh_=>by rw[show (((((inS 1 (As X) 0).take i).map ky3)++ [(3,(x35.1:Int),x35.2)]):List Ky)=(((inS 1 (As X) 0).take (i+1)).map ky3) from (tk_eq (f:=ky3) hx36 rfl)] at hh_;exact hh_)
  have h50:=tk6 h48.f.f.f.f.f.e.t7
  change ∃n',n'<_∧_
  refine⟨(((inS 1 (As X) 0).length)-(i+1)),by omega,(i+1),k+1,p41,cap42,_,rfl,om,om,(lvF [.k 3 (.slice p41 (k+1) cap42),.k 4 (.slice p18 ((inS 1 (As X) 0).length) c19),.o 5 (oJ .i64 ((i:Int)+1) (((i+1):Nat):Int))]),h50⟩
 refine go [.v 6 3 (oF _ c30)]<|up<|g0 ?_
 have h51:sat g _ (Sl 72 3 p2 k c2 (fl eO (allK 3 X))::_):=sat_imp h29 (fun _ hh_=>by rw[show ((((inS 1 (As X) 0).take i).map ky3):List Ky)=(allK 3 X) from (ky3_all om)] at hh_;exact hh_)
 have hl52:=fl_n eO_ok dc h51
 have hk_:k=((inS 1 (As X) 0).length):=by have h_:=allK_len 3 X;omega
 have h53:sat g _ (Sl 72 3 p2 ((inS 1 (As X) 0).length) c2 (fl eO (allK 3 X))::_):=sat_imp h51 (fun _ hh_=>by rw[←hk_];exact hh_)
 have h55:sat g _ (DkR b X::_):=dr_close hP10 h53.d.b.d.t6
 exact en (.slice p2 k c2) [] ⟨_,_,rfl,⟨p2,c2,by rw[hk_],rfl⟩,h55.C.t3⟩
theorem r11copy_ht(b:Nat)(X:Xs):HT prog 168 [pV b] [DkR b X] (fun v K=> ∃b2:Nat,v=pV b2∧K= [DkR b X,DkR b2 X]):=by
 refine hiS func168 ntmps168 fun g w0 R h0=> ?_
 obtain⟨s12,p13,c14,V15,hP10,h11⟩:=dr_open h0
 refine g0<|cl1 call221 (r11v b (pV s12) (.slice p13 64 c14)) h11 fun _ h17=>g0<|dw (fls [0,1,2,3,6,7,8,9] (Tr.an2 4 (Tr.an 5 (Tr.an 10 (Tr.fl 11 (Tr.an 12 (Tr.fl 13 Tr.nil))))) 5 (Tr.an 4 (Tr.an 10 (Tr.fl 11 (Tr.an 12 (Tr.fl 13 Tr.nil))))))) h17 fun _ h19=>go [rd 3 3 0 1 1 h19,rd 3 9 0 2 1 h19] ?_
 refine br2 ?_ ?_
 ·
  refine cG call165 (r4copy_ht s12 (As X)) h19.a.t4 ?_
  rintro v K _ (⟨b20,rfl,rfl⟩) h23
  have h24:=ap2 h23
  refine⟨kd [rd 0 9 2 2 1 h24],?_⟩
  refine nG (fun q_=> .slice (some ⟨q_,0,none⟩) 0 0) 2 [] h24 (fun r25 w26 h27=>⟨kd [rd 0 9 3 2 1 h27],?_⟩)
  have h28:sat g _ (Sl 2 1 (some ⟨r25,0,none⟩) 0 0 (fl eI [])::_):=sl_of_cl h27 rfl om
  refine actG ?_
  refine aG 16 1 (Ot 11) (Ot 15) (iV 0) (some ⟨r25,0,none⟩) p13 0 0 64 c14 8 underlying294 h28 4 rfl (fl eI V15) (gv_sl _ _ _) (by rw[fl_len eI_ok,hP10.2.1]) (fl_one eI_ok _) 64 ?_
  intro p29 cap30 w31 h32
  have h33:sat g _ (Sl 2 1 p29 64 cap30 (fl eI V15)::_):=sI h32
  obtain⟨hn34,hn35⟩:=sl_le h33
  refine⟨kd [],nxG ?_⟩
  refine g0<|nG (fun q_=>pV q_) 296 [.bool true,pV b20,.slice p29 64 cap30] h33 (fun r36 w37 h38=>⟨kd [],?_⟩)
  refine g0 ?_
  have h40:sat g _ (DkR b X::_):=dr_close hP10 h38.e.c.e.t7
  have h42:sat g _ (DkR r36 X::_):=dr_close hP10 h40.b.c.c.t5
  exact en (pV r36) [] ⟨_,_,rfl,⟨r36,rfl,rfl⟩,h42.a.t3⟩
 refine nG (fun q_=> .slice (some ⟨q_,0,none⟩) 0 0) 2 [] h19 (fun r44 _ h46=>⟨kd [rd 0 9 1 2 1 h46,rd 0 3 1 1 1 h46],?_⟩)
 refine cG call165 (r4copy_ht s12 (As X)) h46.b.t5 ?_
 rintro v K w49 (⟨b47,rfl,rfl⟩) h50
 have h51:=ap2 h50
 refine⟨kd [rd 0 9 3 2 1 h51],?_⟩
 have h53:sat g _ (Sl 2 1 (some ⟨r44,0,none⟩) 0 0 (fl eI [])::_):=sl_of_cl h51.b.t6 rfl om
 refine actG ?_
 refine aG 16 1 (Ot 11) (Ot 15) (iV 0) (some ⟨r44,0,none⟩) p13 0 0 64 c14 8 underlying294 h53 4 rfl (fl eI V15) (gv_sl _ _ _) (by rw[fl_len eI_ok,hP10.2.1]) (fl_one eI_ok _) 64 ?_
 intro p54 cap55 w56 h57
 have h58:sat g _ (Sl 2 1 p54 64 cap55 (fl eI V15)::_):=sI h57
 obtain⟨hn59,hn60⟩:=sl_le h58
 refine⟨kd [],nxG ?_⟩
 refine g0<|nG (fun q_=>pV q_) 296 [.bool true,pV b47,.slice p54 64 cap55] h58 (fun r61 w62 h63=>⟨kd [],?_⟩)
 refine g0 ?_
 have h65:sat g _ (DkR b X::_):=dr_close hP10 h63.e.c.e.t7
 have h67:sat g _ (DkR r61 X::_):=dr_close hP10 h65.b.c.c.t5
 exact en (pV r61) [] ⟨_,_,rfl,⟨r61,rfl,rfl⟩,h67.a.t3⟩
theorem q35e72_eql_t{n:Nat}{l:Fr}{o:Oper}{x y:Operand}(a0 a1 a2 c0 c1 c2:Int)(ho:o.op= .binOp .eql 72 x y 72)(hx:fe n l x= .agg #[.int .i64 a0,.int .i64 a1,.int .u32 a2])(hy:fe n l y= .agg #[.int .i64 c0,.int .i64 c1,.int .u32 c2])(h:a0=c0∧a1=c1∧a2=c2)(w:World):(execOp (fe n l) o).run prog w= .ok (.value (.bool true)) w:=by
 obtain⟨rfl,rfl,rfl⟩:=h
 simp[execOp,ho,hx,hy,go_sem]
theorem q35e72_eql_f{n:Nat}{l:Fr}{o:Oper}{x y:Operand}(a0 a1 a2 c0 c1 c2:Int)(ho:o.op= .binOp .eql 72 x y 72)(hx:fe n l x= .agg #[.int .i64 a0,.int .i64 a1,.int .u32 a2])(hy:fe n l y= .agg #[.int .i64 c0,.int .i64 c1,.int .u32 c2])(h: ¬(a0=c0∧a1=c1∧a2=c2))(w:World):(execOp (fe n l) o).run prog w= .ok (.value (.bool false)) w:=by
 by_cases h0:a0=c0
 · skip
   by_cases h1:a1=c1
   · skip
     by_cases h2:a2=c2
     · exact absurd ⟨h0,h1,h2⟩ h
     · simp[execOp,ho,hx,hy,go_sem,h0,h1,h2]
   · simp[execOp,ho,hx,hy,go_sem,h0,h1]
 · simp[execOp,ho,hx,hy,go_sem,h0]
theorem rw_get{g w:World}{L:List Assn}{j b:Nat}{S:Wst}(h:sat g w L)(hj:L[j]? =some (WdR b S)):WOk S∧Zv S.B:=sat_use h hj fun _ ha _=>by
 obtain⟨_,hx,_⟩:=ha
 exact hx
theorem r12new_y(gn:Int)(hgn:1≤gn∧gn≤4294967295):HT prog 66 [uV gn] [] (fun v K=> ∃b:Nat,v= .tuple #[pV b,iV 0]∧K= [WdR b (wnew gn)]):=by
 refine hiS func66 ntmps66 fun g w0 R h0=>g0<|cl0 call129 (r1chk_y gn om) h0 fun _ h11=>g0<|cP call130 (by have h_:=r9new_ok 64 gn dc om;exact h_) h11 ?_
 rintro v K _ (⟨b12,rfl,rfl⟩) h14
 have h15:=ap1 h14
 refine g0<|cP call131 (r10new_ht gn om) h15 ?_
 rintro v K _ (⟨b16,rfl,rfl⟩) h18
 have h19:=ap1 h18
 refine g0<|cP call132 (r11new_ht gn om) h19 ?_
 rintro v K _ (⟨b20,rfl,rfl⟩) h22
 have h23:=ap1 h22
 refine g0<|cP call133 rnew_ht h23 ?_
 rintro v K _ (⟨b24,rfl,rfl⟩) h26
 refine cP call134 r7new_ht (ap1 h26) ?_
 rintro v K _ (⟨b28,rfl,rfl⟩) h30
 have h31:=ap1 h30
 refine g0<|nP 160 [.bool true,pV b12,pV b16,pV b20,pV b24,pV b28,iV 0] h31 (fun r32 w33 h34=> ?_)
 refine g0 ?_
 have h36:sat g _ (WdR r32 (wnew gn)::_):=rw_close ⟨wok_new hgn,zv_rep⟩ h34.b.c.d.e.d.t7
 exact en (.tuple #[pV r32,iV 0]) [] ⟨_,_,rfl,⟨r32,rfl,rfl⟩,h36⟩
theorem r12span_y(tk:Int)(h:1≤tk∧tk≤1048576):HQ 80 [iV tk] [] (.bool true) []:=by
 refine hiS func80 ntmps80 fun g w0 R h0=>go [.v 1 1 (oT (tk≥1)),.v 1 4 (oT (tk≤1048576))] ?_
 exact enR _ [] h0
theorem r12span_n(tk:Int)(h:tk<1∨1048576<tk):HQ 80 [iV tk] [] (.bool false) []:=by
 refine hiS func80 ntmps80 fun g w0 R h0=>go [.s 1 1] ?_
 by_cases c10:tk≥1
 ·
  refine go [.v 1 1 (oT _ c10),.v 1 4 (oF (tk≤1048576))] ?_
  exact enR _ [] h0
 refine go [.v 1 1 (oF _ c10)] ?_
 exact enR _ [] h0
theorem rgod_1y(a:Int)(ha:0≤a∧a≤65535):HQ 145 [iV 1,iV a] [] (.bool true) []:=by
 refine hiS func145 ntmps145 fun g w0 R h0=>go [.v 3 1 (oT (a≥0)),.v 3 4 (oT (a≤65535))] ?_
 exact enR _ [] h0
theorem rgod_1n(a:Int)(ha:a<0∨65535<a):HQ 145 [iV 1,iV a] [] (.bool false) []:=by
 refine hiS func145 ntmps145 fun g w0 R h0=>go [.s 3 1] ?_
 by_cases c10:a≥0
 ·
  refine go [.v 3 1 (oT _ c10),.v 3 4 (oF (a≤65535))] ?_
  exact enR _ [] h0
 refine go [.v 3 1 (oF _ c10)] ?_
 exact enR _ [] h0
theorem rgod_2y(a:Int)(ha:1≤a∧a≤65536):HQ 145 [iV 2,iV a] [] (.bool true) []:=by
 refine hiS func145 ntmps145 fun g w0 R h0=>go [.v 5 1 (oT (a≥1)),.v 5 4 (oT (a≤65536))] ?_
 exact enR _ [] h0
theorem rgod_2n(a:Int)(ha:a<1∨65536<a):HQ 145 [iV 2,iV a] [] (.bool false) []:=by
 refine hiS func145 ntmps145 fun g w0 R h0=>go [.s 5 1] ?_
 by_cases c10:a≥1
 ·
  refine go [.v 5 1 (oT _ c10),.v 5 4 (oF (a≤65536))] ?_
  exact enR _ [] h0
 refine go [.v 5 1 (oF _ c10)] ?_
 exact enR _ [] h0
theorem rgod_3y(a:Int)(ha:1≤a∧a≤1048576):HQ 145 [iV 3,iV a] [] (.bool true) []:=by
 refine hiS func145 ntmps145 fun g w0 R h0=>g0<|cl0 call80 (r12span_y a om) h0 fun _ h11=>g0 ?_
 exact enR _ [] h11
theorem rgod_3n(a:Int)(ha:a<1∨1048576<a):HQ 145 [iV 3,iV a] [] (.bool false) []:=by
 refine hiS func145 ntmps145 fun g w0 R h0=>g0 ?_
 by_cases c10:1≤a
 ·
  refine cl0 call80 (r12span_n a om) h0 fun _ h12=>g0 ?_
  exact enR _ [] h12
 refine cl0 call80 (r12span_n a om) h0 fun _ h14=>g0 ?_
 exact enR _ [] h14
theorem rgod_0(k a:Int)(hk:k<1∨3<k):HQ 145 [iV k,iV a] [] (.bool false) []:=by
 refine hiS func145 ntmps145 fun g w0 R h0=>go [.v 2 0 (qeF k 1),.v 4 0 (qeF k 2),.v 6 0 (qeF k 3)] ?_
 exact enR _ [] h0
theorem r12get_1(b f p d s l:Nat)(z0:Int)(X:Xs)(a:Int)(ha:0≤a∧a≤65535):HQ 146 [pV b,iV 1,iV a] [Cl b [.bool true,pV f,pV p,pV d,pV s,pV l,iV z0] 160,Dc f 64 X] (.tuple #[.agg #[iV ((opnO X a).1),iV ((opnO X a).2.1),uV ((opnO X a).2.2)],iV (opnE X a)]) [Cl b [.bool true,pV f,pV p,pV d,pV s,pV l,iV z0] 160,Dc f 64 (opnX X a)]:=by
 refine hiS func146 ntmps146 fun g w0 R h0=>g0<|nP 72 [iV 0,iV 0,uV 0] h0 (fun _ _ h12=> ?_)
 have h13:=h12.b.t4
 refine go [rd 2 3 1 1 1 h12]<|cl1 call208 (r9open_ht f 64 X a) h13 fun _ h15=> ?_
 have h16:=h15.a.t4
 refine g0<|sA [iV ((opnO X a).1),iV ((opnO X a).2.1),uV ((opnO X a).2.2)] h16 fun _ h18=>g0 ?_
 exact enR _ [rd 0 0 0 0 3 h18] (tk3 (sf2 (sf2 (sf3 h18.a.b.t4))))
theorem r12get_2(b f p d s l:Nat)(z0:Int)(X:Xs)(a:Int)(ha:1≤a∧a≤65536):HQ 146 [pV b,iV 2,iV a] [Cl b [.bool true,pV f,pV p,pV d,pV s,pV l,iV z0] 160,PlR p X] (.tuple #[.agg #[iV ((pinO X a).1),iV ((pinO X a).2.1),uV ((pinO X a).2.2)],iV (pinE X a)]) [Cl b [.bool true,pV f,pV p,pV d,pV s,pV l,iV z0] 160,PlR p (pinX X a)]:=by
 refine hiS func146 ntmps146 fun g w0 R h0=>g0<|nP 72 [iV 0,iV 0,uV 0] h0 (fun _ _ h12=> ?_)
 refine go [rd 4 3 1 2 1 h12] ?_
 by_cases c13:used X+a≤1048576
 ·
  refine cl1 call209 (r10pin_y p X a om om) h12.b.t4 fun _ h16=> ?_
  have h17:=h16.a.t4
  refine g0<|sA [iV ((pinO X a).1),iV ((pinO X a).2.1),uV ((pinO X a).2.2)] h17 fun _ h19=>g0 ?_
  exact enR _ [rd 0 0 0 0 3 h19] (tk3 (sf2 (sf2 (sf3 h19.a.b.t4))))
 refine cl1 call209 (r10pin_n p X a om om) h12.b.t4 fun _ h24=> ?_
 have h25:=h24.a.t4
 refine g0<|sA [iV ((pinO X a).1),iV ((pinO X a).2.1),uV ((pinO X a).2.2)] h25 fun _ h27=>g0 ?_
 exact enR _ [rd 0 0 0 0 3 h27] (tk3 (sf2 (sf2 (sf3 h27.a.b.t4))))
theorem r12get_3(b f p d s l:Nat)(z0:Int)(X:Xs)(a:Int)(ha:1≤a∧a≤1048576)(hn:0≤z0∧z0≤1099511627776):HQ 146 [pV b,iV 3,iV a] [Cl b [.bool true,pV f,pV p,pV d,pV s,pV l,iV z0] 160,DkR d X] (.tuple #[.agg #[iV ((gntO X a z0).1),iV ((gntO X a z0).2.1),uV ((gntO X a z0).2.2)],iV (gntE X a z0)]) [Cl b [.bool true,pV f,pV p,pV d,pV s,pV l,iV z0] 160,DkR d (gntX X a z0)]:=by
 refine hiS func146 ntmps146 fun g w0 R h0=>g0<|nP 72 [iV 0,iV 0,uV 0] h0 (fun _ _ h12=> ?_)
 refine g0<|dw (fls [0,1,2,3,4,5,6,7,8] (Tr.an 9 (fls [10,11] (Tr.an 12 (Tr.fl 13 Tr.nil))))) h12 fun _ h14=> ?_
 have h15:=h14.b.t4
 refine go [rd 5 3 1 3 1 h14,rd 5 8 1 6 1 h14]<|cw1 call210 (r11grant_ht d X a z0 om om) h15 fun _ h17=>⟨kd [],?_⟩
 have h18:=h17.a.t4
 refine g0<|sB [iV ((gntO X a z0).1),iV ((gntO X a z0).2.1),uV ((gntO X a z0).2.2)] h18 fun _ h20=>⟨kd [],?_⟩
 refine g0 ?_
 exact enR _ [rd 0 0 0 0 3 h20] (tk3 (sf2 (sf2 (sf3 h20.a.b.t4))))
theorem r12copy_ht(b:Nat)(S:Wst):HT prog 84 [pV b] [WdR b S] (fun v K=> ∃b2:Nat,v=pV b2∧K= [WdR b S,WdR b2 S]):=by
 refine hiS func84 ntmps84 fun g w0 R h0=> ?_
 obtain⟨f12,p13,d14,s15,l16,hP10,h11⟩:=rw_open h0
 have hP10n:=hP10.1.nl;have hP10m:=hP10.1.nh;have hP10t:=hP10.1.tn
 refine g0<|cl1 call79 (r12v b (pV f12) (pV p13) (pV d14) (pV s15) (pV l16) (iV S.now)) h11 fun _ h18=>g0<|dw (fls [0,1,2,3,5,6,7,8,10,11,12,13,15,16,17,18,20,21,22,23,25,26,27,28] (Tr.an 4 (Tr.an 9 (Tr.an 14 (Tr.an 19 (Tr.an 24 (Tr.fl 29 (Tr.an 30 (Tr.fl 31 Tr.nil))))))))) h18 fun _ h20=> ?_
 have h22:=h20.a.t7
 refine go [rd 3 3 0 1 1 h20,rd 3 8 0 2 1 h20,rd 3 13 0 3 1 h20,rd 3 18 0 4 1 h20,rd 3 23 0 5 1 h20,rd 3 28 0 6 1 h20]<|cG call166 (r9copy_ht f12 64 S.F) h22 ?_
 rintro v K _ (⟨b21,rfl,rfl⟩) h24
 have h25:=ap2 h24
 refine⟨kd [rd 0 28 2 6 1 h25,rd 0 23 2 5 1 h25,rd 0 18 2 4 1 h25,rd 0 13 2 3 1 h25,rd 0 8 2 2 1 h25],?_⟩
 refine cG call167 (r10copy_ht p13 S.B) h25.c.t8 ?_
 rintro v K _ (⟨b26,rfl,rfl⟩) h29
 have h30:=ap2 h29
 refine⟨kd [rd 0 28 4 6 1 h30,rd 0 23 4 5 1 h30,rd 0 18 4 4 1 h30,rd 0 13 4 3 1 h30],?_⟩
 refine cG call168 (r11copy_ht d14 S.D) h30.e.t9 ?_
 rintro v K _ (⟨b31,rfl,rfl⟩) h34
 have h35:=ap2 h34
 refine⟨kd [rd 0 28 6 6 1 h35,rd 0 23 6 5 1 h35,rd 0 18 6 4 1 h35],?_⟩
 refine cG call169 (rcopy_ht s15 S.q) h35.x.t10 ?_
 rintro v K _ (⟨b36,rfl,rfl⟩) h39
 have h40:=ap2 h39
 refine⟨kd [rd 0 28 8 6 1 h40,rd 0 23 8 5 1 h40],?_⟩
 refine cG call94 (r7copy_ht l16 S.T) h40.i.t11 ?_
 rintro v K _ (⟨b41,rfl,rfl⟩) h44
 have h45:=ap2 h44
 refine⟨kd [rd 0 28 10 6 1 h45],?_⟩
 refine g0<|nG (fun q_=>pV q_) 160 [.bool true,pV b21,pV b26,pV b31,pV b36,pV b41,iV S.now] h45 (fun r46 w47 h48=>⟨kd [],?_⟩)
 refine g0 ?_
 have h50:sat g _ (WdR r46 S::_):=rw_close hP10 h48.b.c.f.h.j.e.t13
 have h52:sat g _ (WdR b S::_):=rw_close hP10 h50.a.b.c.d.e.f.t8
 exact en (pV r46) [] ⟨_,_,rfl,⟨r46,rfl,rfl⟩,h52⟩
theorem r12now_ht(b:Nat)(S:Wst):HQ 75 [pV b] [WdR b S] (iV S.now) [WdR b S]:=by
 refine hiS func75 ntmps75 fun g w0 R h0=> ?_
 obtain⟨f12,p13,d14,s15,l16,hP10,h11⟩:=rw_open h0
 have hP10n:=hP10.1.nl;have hP10m:=hP10.1.nh;have hP10t:=hP10.1.tn
 refine g0<|cl1 call79 (r12v b (pV f12) (pV p13) (pV d14) (pV s15) (pV l16) (iV S.now)) h11 fun w17 h18=>go [rd 3 3 0 6 1 h18] ?_
 have h19:sat g _ (WdR b S::_):=rw_close hP10 h18
 exact enR _ [] h19
theorem r12led_ht(b:Nat)(S:Wst):HT prog 39 [pV b] [WdR b S] (fun v K=> ∃b2:Nat,v=pV b2∧K= [WdR b S,LgR b2 S.T]):=by
 refine hiS func39 ntmps39 fun g w0 R h0=> ?_
 obtain⟨f12,p13,d14,s15,l16,hP10,h11⟩:=rw_open h0
 have hP10n:=hP10.1.nl;have hP10m:=hP10.1.nh;have hP10t:=hP10.1.tn
 refine g0<|cl1 call79 (r12v b (pV f12) (pV p13) (pV d14) (pV s15) (pV l16) (iV S.now)) h11 fun _ h18=> ?_
 have h20:=h18.e.t7
 refine go [rd 3 3 0 5 1 h18]<|cP call94 (r7copy_ht l16 S.T) h20 ?_
 rintro v K w21 (⟨b19,rfl,rfl⟩) h22
 have h23:=ap2 h22
 refine g0 ?_
 have h25:sat g _ (WdR b S::_):=rw_close hP10 h23.f.f.f.f.f.t8
 exact en (pV b19) [] ⟨_,_,rfl,⟨b19,rfl,rfl⟩,h25⟩
theorem r12asw_ht(b:Nat)(S:Wst)(l:List UInt8)(hl:l.length≤1099511627776):HQ 34 [pV b,.string (St l)] [WdR b S] (iV (aswE S l)) [WdR b (aswS S l)]:=by
 refine hiS func34 ntmps34 fun g w0 R h0=> ?_
 obtain⟨f12,p13,d14,s15,l16,hP10,h11⟩:=rw_open h0
 have hP10n:=hP10.1.nl;have hP10m:=hP10.1.nh;have hP10t:=hP10.1.tn
 refine g0<|cl1 call79 (r12v b (pV f12) (pV p13) (pV d14) (pV s15) (pV l16) (iV S.now)) h11 fun _ h18=> ?_
 have h19:=h18.d.t7
 refine go [rd 3 3 0 4 1 h18]<|cl1 call82 (radd_ht s15 S.q l hl) h19 fun w20 h21=>g0 ?_
 have h23:sat g _ (WdR b (aswS S l)::_):=rw_close ⟨wok_asw hP10.1 l,hP10.2⟩ h21.d.d.d.d.t7
 exact enR (iV (addE S.q l)) [] h23
theorem r12tck_ht(b:Nat)(S:Wst)(tk:Int):HQ 31 [pV b,iV tk] [WdR b S] (iV (tckE S tk)) [WdR b (tckS S tk)]:=by
 refine hiS func31 ntmps31 fun g w0 R h0=> ?_
 obtain⟨f12,p13,d14,s15,l16,hP10,h11⟩:=rw_open h0
 have hP10n:=hP10.1.nl;have hP10m:=hP10.1.nh;have hP10t:=hP10.1.tn
 refine g0<|cl1 call79 (r12v b (pV f12) (pV p13) (pV d14) (pV s15) (pV l16) (iV S.now)) h11 fun _ h18=>g0 ?_
 by_cases c19:1≤tk
 ·
  by_cases c20:tk≤1048576
  ·
   refine cl0 call80 (r12span_y tk om) h18 fun w21 h22=>go [rd 5 3 0 6 1 h22,.v 5 5 (oIr (S.now+tk)),.s 5 6] ?_
   by_cases c23:S.now+tk>1099511627776
   ·
    refine go [.v 5 6 (oT _ c23)] ?_
    have hp_:=tck_over (S:=S) (t:=tk) ⟨by omega,by omega⟩ om
    have h24:sat g _ (WdR b S::_):=rw_close hP10 h22
    exact en (iV 17) [] ⟨_,[WdR b S],rfl,⟨by rw[hp_.1],by rw[hp_.2]⟩,h24⟩
   refine go [.v 5 6 (oF _ c23),rd 7 4 0 6 1 h22,.v 7 6 (oIr (S.now+tk))]<|sP [(6,iV (S.now+tk))] [.bool true,pV f12,pV p13,pV d14,pV s15,pV l16,iV (S.now+tk)] h22 fun w25 h26=>g0 ?_
   have hp_:=tck_ok (S:=S) (t:=tk) ⟨by omega,by omega⟩ om
   have h27:sat g _ (WdR b ({S with now:=S.now+tk}:Wst)::_):=rw_close ⟨hp_.2▸wok_tck hP10.1 tk,hP10.2⟩ h26
   exact en (iV 0) [] ⟨_,[WdR b ({S with now:=S.now+tk}:Wst)],rfl,⟨by rw[hp_.1],by rw[hp_.2]⟩,h27⟩
  refine cl0 call80 (r12span_n tk om) h18 fun w28 h29=>g0 ?_
  have hp_:=tck_arg (S:=S) (t:=tk) om
  have h30:sat g _ (WdR b S::_):=rw_close hP10 h29
  exact en (iV 2) [] ⟨_,[WdR b S],rfl,⟨by rw[hp_.1],by rw[hp_.2]⟩,h30⟩
 refine cl0 call80 (r12span_n tk om) h18 fun w31 h32=>g0 ?_
 have hp_:=tck_arg (S:=S) (t:=tk) om
 have h33:sat g _ (WdR b S::_):=rw_close hP10 h32
 exact en (iV 2) [] ⟨_,[WdR b S],rfl,⟨by rw[hp_.1],by rw[hp_.2]⟩,h33⟩
theorem r12all_ht(b:Nat)(S:Wst):HT prog 222 [pV b] [WdR b S] (fun v K=> ∃p c,v= .slice p (allS S).length c∧K= [Sl 72 3 p ((allS S).length) c (fl eO (allS S)),WdR b S]):=by
 refine hiS func222 ntmps222 fun g w0 R h0=> ?_
 obtain⟨f12,p13,d14,s15,l16,hP10,h11⟩:=rw_open h0
 have hP10n:=hP10.1.nl;have hP10m:=hP10.1.nh;have hP10t:=hP10.1.tn
 refine g0<|cl1 call79 (r12v b (pV f12) (pV p13) (pV d14) (pV s15) (pV l16) (iV S.now)) h11 fun _ h18=>g0<|nG (fun q_=> .slice (some ⟨q_,0,none⟩) 0 0) 72 [] h18 (fun r19 _ h21=>⟨kd [],?_⟩)
 have h24:=h21.b.t8
 refine go [rd 3 4 1 1 1 h21]<|cP call268 (by have h_:=r9all_ht f12 64 S.F;exact h_) h24 ?_
 rintro v K w25 (⟨p22,c23,rfl,rfl⟩) h26
 have h27:=ap2 h26
 have hn28:((inS 1 (As S.F) 0).length)≤64:=by have h_:=inS_len 1 (As S.F) 0;rw[as_len,hP10.1.fl] at h_;exact h_
 have hn29:((inS 1 (As S.B) 0).length)≤64:=by have h_:=inS_len 1 (As S.B) 0;rw[as_len,hP10.1.bl] at h_;exact h_
 have hn30:((inS 1 (As S.D) 0).length)≤64:=by have h_:=inS_len 1 (As S.D) 0;rw[as_len,hP10.1.dl] at h_;exact h_
 have h32:sat g _ (Sl 72 3 (some ⟨r19,0,none⟩) 0 0 (fl eO [])::_):=sl_of_cl h27.b.t9 rfl om
 refine actG ?_
 refine aG 13 3 (Ot 7) (Ot 12) (.agg #[iV 0,iV 0,uV 0]) (some ⟨r19,0,none⟩) p22 0 0 ((inS 1 (As S.F) 0).length) c23 24 underlying314 h32 2 rfl (fl eO (allK 1 S.F)) (gv_sl _ _ _) (by rw[fl_len eO_ok,show (allK 1 S.F).length=((inS 1 (As S.F) 0).length) from (allK_len _ _)]) (fl_one eO_ok _) ((inS 1 (As S.F) 0).length) ?_
 intro p33 cap34 w35 h36
 have h37:sat g _ (Sl 72 3 p33 ((inS 1 (As S.F) 0).length) cap34 (fl eO (allK 1 S.F))::_):=sI h36
 obtain⟨hn38,hn39⟩:=sl_le h37
 refine nxA ?_
 have h42:=h37.d.t9
 refine go [rd 4 4 3 2 1 h37]<|cP call269 (r10all_ht p13 S.B) h42 ?_
 rintro v K _ (⟨p40,c41,rfl,rfl⟩) h44
 have h46:=(ap2 h44).b.t10
 refine actG ?_
 refine aG 20 3 (Ot 14) (Ot 19) (.agg #[iV 0,iV 0,uV 0]) p33 p40 ((inS 1 (As S.F) 0).length) cap34 ((inS 1 (As S.B) 0).length) c41 24 underlying314 h46 2 rfl (fl eO (allK 2 S.B)) (gv_sl _ _ _) (by rw[fl_len eO_ok,show (allK 2 S.B).length=((inS 1 (As S.B) 0).length) from (allK_len _ _)]) (fl_one eO_ok _) (((inS 1 (As S.F) 0).length)+((inS 1 (As S.B) 0).length)) ?_
 intro p47 cap48 w49 h50
 have h51:sat g _ (Sl 72 3 p47 (((inS 1 (As S.F) 0).length)+((inS 1 (As S.B) 0).length)) cap48 (fl eO ((allK 1 S.F)++(allK 2 S.B)))::_):=sJ h50
 obtain⟨hn52,hn53⟩:=sl_le h51
 refine nxA ?_
 have h56:=h51.f.t10
 refine go [rd 5 4 5 3 1 h51]<|cP call270 (r11all_ht d14 S.D) h56 ?_
 rintro v K _ (⟨p54,c55,rfl,rfl⟩) h58
 have h60:=(ap2 h58).b.t11
 refine actG ?_
 refine aG 27 3 (Ot 21) (Ot 26) (.agg #[iV 0,iV 0,uV 0]) p47 p54 (((inS 1 (As S.F) 0).length)+((inS 1 (As S.B) 0).length)) cap48 ((inS 1 (As S.D) 0).length) c55 24 underlying314 h60 2 rfl (fl eO (allK 3 S.D)) (gv_sl _ _ _) (by rw[fl_len eO_ok,show (allK 3 S.D).length=((inS 1 (As S.D) 0).length) from (allK_len _ _)]) (fl_one eO_ok _) (((inS 1 (As S.F) 0).length)+((inS 1 (As S.B) 0).length)+((inS 1 (As S.D) 0).length)) ?_
 intro p61 cap62 w63 h64
 have h65:sat g _ (Sl 72 3 p61 (((inS 1 (As S.F) 0).length)+((inS 1 (As S.B) 0).length)+((inS 1 (As S.D) 0).length)) cap62 (fl eO (((allK 1 S.F)++(allK 2 S.B))++(allK 3 S.D)))::_):=sJ h64
 obtain⟨hn66,hn67⟩:=sl_le h65
 refine nxA<|g0 ?_
 have hn_:((inS 1 (As S.F) 0).length)+((inS 1 (As S.B) 0).length)+((inS 1 (As S.D) 0).length)=(allS S).length:=by unfold allS;rw[List.length_append,List.length_append,allK_len,allK_len,allK_len];omega
 have h68:sat g _ (Sl 72 3 p61 ((allS S).length) cap62 (fl eO (allS S))::_):=sat_imp h65 (fun _ hh_=>by rw[hn_,show (((allK 1 S.F)++(allK 2 S.B))++(allK 3 S.D))=allS S from by unfold allS;simp only[List.append_assoc,List.nil_append]] at hh_;exact hh_)
 have h70:sat g _ (WdR b S::_):=rw_close hP10 h68.i.i.c.e.x.i.t11
 exact en (.slice p61 (((inS 1 (As S.F) 0).length)+((inS 1 (As S.B) 0).length)+((inS 1 (As S.D) 0).length)) cap62) [] ⟨_,_,rfl,⟨p61,cap62,by rw[hn_],rfl⟩,(tk3 (sf2 (sf2 (sf5 h70.a.t6))))⟩
theorem r12has_ht(b:Nat)(S:Wst)(x y z:Int):HQ 174 [pV b,.agg #[iV x,iV y,uV z]] [WdR b S] (.bool (decide (Thr S (x,y,z)))) [WdR b S]:=by
 refine hiS func174 ntmps174 fun g w0 R h0=> ?_
 have hwk_:=(rw_get (j:=0) h0 rfl).1
 refine g0<|nP 72 [iV x,iV y,uV z] h0 (fun r10 _ h12=> ?_)
 have h15:=h12.a.t3
 refine g0<|cP call222 (r12all_ht b S) h15 ?_
 rintro v K _ (⟨p13,c14,rfl,rfl⟩) h17
 have h18:=ap2 h17
 have hl19:=allS_le (rw_get (j:=1) h18 rfl).1
 refine g0 ?_
 refine lpS (fun mz_ a w=> ∃i:Nat,∃lr:Fr,mz_=(allS S).length-i∧(i≤(allS S).length)∧(∀b∈(allS S).take i,b≠(x,y,z))∧a=mk 21 (([(3,pV r10),(5,.slice p13 ((allS S).length) c14),(6,iV (i:Int))]:Fr)++lr)∧sat g w [Sl 72 3 p13 ((allS S).length) c14 (fl eO (allS S)),WdR b S,Cl r10 [iV x,iV y,uV z] 72,R]) ((allS S).length-0) ⟨0,_,rfl,(Nat.zero_le _),(fun _ hb_=>nomatch hb_),(lvF [.k 3 (pV r10),.k 5 (.slice p13 ((allS S).length) c14),.o 6 (oJ .i64 0 (0:Int))]),h18⟩ ?_
 rintro m21 a22 w23 ⟨i,lr20,rfl,hi,hno,rfl,h24⟩
 refine ga<|go [.s 3 3] ?_
 by_cases c25:(i:Int)<(((allS S).length:Nat):Int)
 ·
  refine go [.v 3 3 (oT _ c25)]<|dw (fls [0,1,2,3,4,5] Tr.nil) h24 fun _ h27=> ?_
  obtain⟨b28,hp29⟩:=sl_ptr0 (j:=0) h27 rfl om
  refine go [.s 5 2]<|lw (.pointer (some ⟨b28,i*3,none⟩)) (fun _=>liP (Ot 15) (Ot 16) p13 b28 0 (i:Int) ((allS S).length) c14 underlying314 3 i hp29 (i*3)) ?_
  obtain⟨x30,hx31⟩: ∃x,(allS S)[i]? =some x:=⟨_,List.getElem?_eq_getElem om⟩
  refine go [.r 5 3 b28 (i*3) [iV x30.1,iV x30.2.1,uV x30.2.2] ⟨gvc 0 h27 rfl hp29 eO_ok 0 (iV x30.1) hx31 (i*3),gvc 0 h27 rfl hp29 eO_ok 1 (iV x30.2.1) hx31 (i*3+1),gvc 0 h27 rfl hp29 eO_ok 2 (uV x30.2.2) hx31 (i*3+2),trivial⟩,rd 5 4 2 0 3 h27,.s 5 5] ?_
  by_cases c32:x30.1=x
  ·
   by_cases c33:x30.2.1=y
   ·
    by_cases c34:x30.2.2=z
    ·
     refine lw (.bool true) (fun _=>q35e72_eql_t (x:=Ot 18) (y:=Ot 19) x30.1 x30.2.1 x30.2.2 x y z kr kr kr ⟨om,om,om⟩ _)<|g0<|up<|g0 ?_
     exact en (.bool true) [] ⟨_,_,rfl,⟨by rw[decide_eq_true ((thr_iff hwk_ _).1 (by have h_:=List.mem_of_getElem? hx31;rwa [ky_eq (a:=x30) (x:=x) (y:=y) (z:=z) om] at h_))],rfl⟩,(tk2 (sf1 (sf3 h27.a.t4)))⟩
    refine lw (.bool false) (fun _=>q35e72_eql_f (x:=Ot 18) (y:=Ot 19) x30.1 x30.2.1 x30.2.2 x y z kr kr kr om _)<|go [.v 4 1 (oIr ((i:Int)+1))] ?_
    exact enN ((allS S).length-(i+1)) ⟨(i+1),_,rfl,om,(tk_ne hno hx31 (ky_ne om)),(lvF [.k 3 (pV r10),.k 5 (.slice p13 ((allS S).length) c14),.o 6 (oJ .i64 ((i:Int)+1) (((i+1):Nat):Int))]),h27⟩
   refine lw (.bool false) (fun _=>q35e72_eql_f (x:=Ot 18) (y:=Ot 19) x30.1 x30.2.1 x30.2.2 x y z kr kr kr om _)<|go [.v 4 1 (oIr ((i:Int)+1))] ?_
   exact enN ((allS S).length-(i+1)) ⟨(i+1),_,rfl,om,(tk_ne hno hx31 (ky_ne om)),(lvF [.k 3 (pV r10),.k 5 (.slice p13 ((allS S).length) c14),.o 6 (oJ .i64 ((i:Int)+1) (((i+1):Nat):Int))]),h27⟩
  refine lw (.bool false) (fun _=>q35e72_eql_f (x:=Ot 18) (y:=Ot 19) x30.1 x30.2.1 x30.2.2 x y z kr kr kr om _)<|go [.v 4 1 (oIr ((i:Int)+1))] ?_
  exact enN ((allS S).length-(i+1)) ⟨(i+1),_,rfl,om,(tk_ne hno hx31 (ky_ne om)),(lvF [.k 3 (pV r10),.k 5 (.slice p13 ((allS S).length) c14),.o 6 (oJ .i64 ((i:Int)+1) (((i+1):Nat):Int))]),h27⟩
 refine go [.v 3 3 (oF _ c25)]<|up<|g0 ?_
 exact en (.bool false) [] ⟨_,_,rfl,⟨by rw[decide_eq_false (fun h_=>tk_not hno om ((thr_iff hwk_ _).2 h_))],rfl⟩,(tk2 (sf1 (sf3 h24.a.t4)))⟩
theorem racq_1(b:Nat)(S:Wst)(a:Int)(ha:0≤a∧a≤65535):HQ 70 [pV b,iV 1,iV a] [WdR b S] (.tuple #[.agg #[iV (acqO S 1 a).1,iV (acqO S 1 a).2.1,uV (acqO S 1 a).2.2],iV (acqE S 1 a)]) [WdR b (acqS S 1 a)]:=by
 refine hiS func70 ntmps70 fun g w0 R h0=> ?_
 have hwk_:=rw_get (j:=0) h0 rfl;have hhd_:=headD_bd hwk_.1.qb;have hhda_:=hhd_.1;have hhdb_:=hhd_.2;have hnwa_:=hwk_.1.nl;have hnwb_:=hwk_.1.nh
 refine g0<|nP 72 [iV 0,iV 0,uV 0] h0 (fun r10 _ h12=> ?_)
 obtain⟨f16,p17,d18,s19,l20,hP14,h15⟩:=rw_open h12.a.t3
 have hP14n:=hP14.1.nl;have hP14m:=hP14.1.nh;have hP14t:=hP14.1.tn
 refine g0<|cl1 call79 (r12v b (pV f16) (pV p17) (pV d18) (pV s19) (pV l20) (iV S.now)) h15 fun _ h22=>g0<|cl0 call145 (rgod_1y a om) h22 fun w23 h24=> ?_
 have h25:sat g _ (WdR b S::_):=rw_close hP14 h24
 refine g0<|cP call84 (r12copy_ht b S) h25 ?_
 rintro v K _ (⟨b26,rfl,rfl⟩) h28
 obtain⟨f33,p34,d35,s36,l37,hP31,h32⟩:=rw_open ((ap2 h28).a.t4)
 have hP31n:=hP31.1.nl;have hP31m:=hP31.1.nh;have hP31t:=hP31.1.tn
 refine g0<|cl2 call146 (r12get_1 b26 f33 p34 d35 s36 l37 S.now S.F a om) h32 fun _ h39=>g0<|nP 72 [iV 0,iV 0,uV 0] h39 (fun r40 _ h42=> ?_)
 refine sA [iV ((opnO S.F a).1),iV ((opnO S.F a).2.1),uV ((opnO S.F a).2.2)] h42 fun _ h44=>go [.s 6 1] ?_
 by_cases c45:(opnE S.F a)=0
 ·
  obtain⟨f49,p50,d51,s52,l53,hP47,h48⟩:=rw_open h44.x.t10
  have hP47n:=hP47.1.nl;have hP47m:=hP47.1.nh;have hP47t:=hP47.1.tn
  have h54:=h48.d.t15
  refine go [.v 6 1 (qnF (opnE S.F a) 0),rd 8 3 0 4 1 h48]<|cl1 call147 (rnext_ht s52 S.q) h54 fun _ h56=>go [.s 9 0] ?_
  by_cases c57:(S.q.headD 1)=2
  ·
   have h58:=h56.m.t15
   refine go [.v 9 0 (qeT _ _ c57)]<|sA [iV 0,iV 0,uV 0] h58 fun w59 h60=>g0 ?_
   have hp_:=acq_later (S:=S) (god1 ha) ((opn_grw (S:=S) ha).1.symm.trans om) om
   have h61:=h60.f.b.f.f.f.f.t15
   have h62:sat g _ (WdR b ({S with q:=S.q.tail}:Wst)::_):=rw_close ⟨hp_.2.2▸wok_acq hwk_.1 1 a,hwk_.2⟩ h61
   exact en (.tuple #[.agg #[iV 0,iV 0,uV 0],iV 15]) [rd 0 0 0 0 3 h60] ⟨_,[WdR b ({S with q:=S.q.tail}:Wst)],rfl,⟨by rw[hp_.1,hp_.2.1],by rw[hp_.2.2]⟩,h62.i.a.t2⟩
  refine go [.v 9 0 (qeF _ _ c57),.s 11 0] ?_
  by_cases c64:(S.q.headD 1)=3
  ·
   have h65:=h56.m.t15
   refine go [.v 11 0 (qeT _ _ c64)]<|sA [iV 0,iV 0,uV 0] h65 fun w66 h67=>g0 ?_
   have hp_:=acq_fail (S:=S) (god1 ha) ((opn_grw (S:=S) ha).1.symm.trans om) om om
   have h68:=h67.f.b.f.f.f.f.t15
   have h69:sat g _ (WdR b ({S with q:=S.q.tail}:Wst)::_):=rw_close ⟨hp_.2.2▸wok_acq hwk_.1 1 a,hwk_.2⟩ h68
   exact en (.tuple #[.agg #[iV 0,iV 0,uV 0],iV 14]) [rd 0 0 0 0 3 h67] ⟨_,[WdR b ({S with q:=S.q.tail}:Wst)],rfl,⟨by rw[hp_.1,hp_.2.1],by rw[hp_.2.2]⟩,h69.i.a.t2⟩
  have h71:=h56.b.b.t15
  refine go [.v 11 0 (qeF _ _ c64)]<|cl2 call146 (r12get_1 b f49 p50 d51 s52 l53 S.now S.F a om) h71 fun _ h73=> ?_
  have h74:=h73.m.t15
  refine g0<|sA [iV ((opnO S.F a).1),iV ((opnO S.F a).2.1),uV ((opnO S.F a).2.2)] h74 fun w75 h76=>g0 ?_
  have hp_:=acq_ok1 (S:=S) ha om om om
  have he0_:(opnE S.F a)=0:=by omega
  have h77:=h76.f.d.f.f.f.f.t15
  have h78:sat g _ (WdR b ({S with q:=S.q.tail,F:=opnX S.F a}:Wst)::_):=rw_close ⟨hp_.2.2▸wok_acq hwk_.1 1 a,hwk_.2⟩ h77
  exact en (.tuple #[.agg #[iV ((opnO S.F a).1),iV ((opnO S.F a).2.1),uV ((opnO S.F a).2.2)],iV (opnE S.F a)]) [rd 0 0 0 0 3 h76] ⟨_,[WdR b ({S with q:=S.q.tail,F:=opnX S.F a}:Wst)],rfl,⟨by rw[hp_.1,hp_.2.1];simp only[he0_],by rw[hp_.2.2]⟩,h78.i.a.t2⟩
 have h80:=h44.h.t10
 refine go [.v 6 1 (qnT (opnE S.F a) 0)]<|sA [iV 0,iV 0,uV 0] h80 fun _ h82=>g0 ?_
 have hp_:=acq_err (S:=S) (god1 ha) (opn_grw (S:=S) ha).1.symm om
 exact en (.tuple #[.agg #[iV 0,iV 0,uV 0],iV (opnE S.F a)]) [rd 0 0 0 0 3 h82] ⟨_,[WdR b S],rfl,⟨by rw[hp_.1,hp_.2.1],by rw[hp_.2.2]⟩,(tk2 (sf1 (sf9 h82.h.t10)))⟩
theorem racq_1n(b:Nat)(S:Wst)(a:Int)(ha:a<0∨65535<a)(hng: ¬godP 1 a):HQ 70 [pV b,iV 1,iV a] [WdR b S] (.tuple #[.agg #[iV (acqO S 1 a).1,iV (acqO S 1 a).2.1,uV (acqO S 1 a).2.2],iV (acqE S 1 a)]) [WdR b (acqS S 1 a)]:=by
 refine hiS func70 ntmps70 fun g w0 R h0=> ?_
 have hwk_:=rw_get (j:=0) h0 rfl;have hhd_:=headD_bd hwk_.1.qb;have hhda_:=hhd_.1;have hhdb_:=hhd_.2;have hnwa_:=hwk_.1.nl;have hnwb_:=hwk_.1.nh
 refine g0<|nP 72 [iV 0,iV 0,uV 0] h0 (fun r10 _ h12=> ?_)
 obtain⟨f16,p17,d18,s19,l20,hP14,h15⟩:=rw_open h12.a.t3
 have hP14n:=hP14.1.nl;have hP14m:=hP14.1.nh;have hP14t:=hP14.1.tn
 refine g0<|cl1 call79 (r12v b (pV f16) (pV p17) (pV d18) (pV s19) (pV l20) (iV S.now)) h15 fun _ h22=>g0 ?_
 by_cases c23:0≤a
 ·
  refine cl0 call145 (rgod_1n a om) h22 fun _ h25=> ?_
  have h26:=h25.f.t8
  refine g0<|sA [iV 0,iV 0,uV 0] h26 fun w27 h28=>g0 ?_
  have hp_:=acq_arg (S:=S) (k:=1) (a:=a) hng
  have h30:sat g _ (WdR b S::_):=rw_close hP14 h28.f.f.f.f.f.f.t8
  exact en (.tuple #[.agg #[iV 0,iV 0,uV 0],iV 2]) [rd 0 0 0 0 3 h28] ⟨_,[WdR b S],rfl,⟨by rw[hp_.1,hp_.2.1],by rw[hp_.2.2]⟩,h30.B.t2⟩
 refine cl0 call145 (rgod_1n a om) h22 fun _ h33=> ?_
 have h34:=h33.f.t8
 refine g0<|sA [iV 0,iV 0,uV 0] h34 fun w35 h36=>g0 ?_
 have hp_:=acq_arg (S:=S) (k:=1) (a:=a) hng
 have h38:sat g _ (WdR b S::_):=rw_close hP14 h36.f.f.f.f.f.f.t8
 exact en (.tuple #[.agg #[iV 0,iV 0,uV 0],iV 2]) [rd 0 0 0 0 3 h36] ⟨_,[WdR b S],rfl,⟨by rw[hp_.1,hp_.2.1],by rw[hp_.2.2]⟩,h38.B.t2⟩
theorem racq_2(b:Nat)(S:Wst)(a:Int)(ha:1≤a∧a≤65536):HQ 70 [pV b,iV 2,iV a] [WdR b S] (.tuple #[.agg #[iV (acqO S 2 a).1,iV (acqO S 2 a).2.1,uV (acqO S 2 a).2.2],iV (acqE S 2 a)]) [WdR b (acqS S 2 a)]:=by
 refine hiS func70 ntmps70 fun g w0 R h0=> ?_
 have hwk_:=rw_get (j:=0) h0 rfl;have hhd_:=headD_bd hwk_.1.qb;have hhda_:=hhd_.1;have hhdb_:=hhd_.2;have hnwa_:=hwk_.1.nl;have hnwb_:=hwk_.1.nh
 refine g0<|nP 72 [iV 0,iV 0,uV 0] h0 (fun r10 _ h12=> ?_)
 obtain⟨f16,p17,d18,s19,l20,hP14,h15⟩:=rw_open h12.a.t3
 have hP14n:=hP14.1.nl;have hP14m:=hP14.1.nh;have hP14t:=hP14.1.tn
 refine g0<|cl1 call79 (r12v b (pV f16) (pV p17) (pV d18) (pV s19) (pV l20) (iV S.now)) h15 fun _ h22=>g0<|cl0 call145 (rgod_2y a om) h22 fun w23 h24=> ?_
 have h25:sat g _ (WdR b S::_):=rw_close hP14 h24
 refine g0<|cP call84 (r12copy_ht b S) h25 ?_
 rintro v K _ (⟨b26,rfl,rfl⟩) h28
 obtain⟨f33,p34,d35,s36,l37,hP31,h32⟩:=rw_open ((ap2 h28).a.t4)
 have hP31n:=hP31.1.nl;have hP31m:=hP31.1.nh;have hP31t:=hP31.1.tn
 have h38:=h32.b.a.t9
 refine g0<|cl2 call146 (r12get_2 b26 f33 p34 d35 s36 l37 S.now S.B a om) h38 fun _ h40=>g0<|nP 72 [iV 0,iV 0,uV 0] h40 (fun r41 _ h43=> ?_)
 refine sA [iV ((pinO S.B a).1),iV ((pinO S.B a).2.1),uV ((pinO S.B a).2.2)] h43 fun _ h45=>go [.s 6 1] ?_
 by_cases c46:(pinE S.B a)=0
 ·
  obtain⟨f50,p51,d52,s53,l54,hP48,h49⟩:=rw_open h45.x.t10
  have hP48n:=hP48.1.nl;have hP48m:=hP48.1.nh;have hP48t:=hP48.1.tn
  have h55:=h49.d.t15
  refine go [.v 6 1 (qnF (pinE S.B a) 0),rd 8 3 0 4 1 h49]<|cl1 call147 (rnext_ht s53 S.q) h55 fun _ h57=>go [.s 9 0] ?_
  by_cases c58:(S.q.headD 1)=2
  ·
   have h59:=h57.m.t15
   refine go [.v 9 0 (qeT _ _ c58)]<|sA [iV 0,iV 0,uV 0] h59 fun w60 h61=>g0 ?_
   have hp_:=acq_later (S:=S) (god2 ha) ((pin_grw (S:=S) ha).1.symm.trans om) om
   have h62:=h61.f.b.f.f.f.f.t15
   have h63:sat g _ (WdR b ({S with q:=S.q.tail}:Wst)::_):=rw_close ⟨hp_.2.2▸wok_acq hwk_.1 2 a,hwk_.2⟩ h62
   exact en (.tuple #[.agg #[iV 0,iV 0,uV 0],iV 15]) [rd 0 0 0 0 3 h61] ⟨_,[WdR b ({S with q:=S.q.tail}:Wst)],rfl,⟨by rw[hp_.1,hp_.2.1],by rw[hp_.2.2]⟩,h63.i.a.t2⟩
  refine go [.v 9 0 (qeF _ _ c58),.s 11 0] ?_
  by_cases c65:(S.q.headD 1)=3
  ·
   have h66:=h57.m.t15
   refine go [.v 11 0 (qeT _ _ c65)]<|sA [iV 0,iV 0,uV 0] h66 fun w67 h68=>g0 ?_
   have hp_:=acq_fail (S:=S) (god2 ha) ((pin_grw (S:=S) ha).1.symm.trans om) om om
   have h69:=h68.f.b.f.f.f.f.t15
   have h70:sat g _ (WdR b ({S with q:=S.q.tail}:Wst)::_):=rw_close ⟨hp_.2.2▸wok_acq hwk_.1 2 a,hwk_.2⟩ h69
   exact en (.tuple #[.agg #[iV 0,iV 0,uV 0],iV 14]) [rd 0 0 0 0 3 h68] ⟨_,[WdR b ({S with q:=S.q.tail}:Wst)],rfl,⟨by rw[hp_.1,hp_.2.1],by rw[hp_.2.2]⟩,h70.i.a.t2⟩
  have h72:=h57.c.b.t15
  refine go [.v 11 0 (qeF _ _ c65)]<|cl2 call146 (r12get_2 b f50 p51 d52 s53 l54 S.now S.B a om) h72 fun _ h74=> ?_
  have h75:=h74.m.t15
  refine g0<|sA [iV ((pinO S.B a).1),iV ((pinO S.B a).2.1),uV ((pinO S.B a).2.2)] h75 fun w76 h77=>g0 ?_
  have hp_:=acq_ok2 (S:=S) ha om om om
  have he0_:(pinE S.B a)=0:=by omega
  have h78:=h77.f.d.f.e.f.f.t15
  have h79:sat g _ (WdR b ({S with q:=S.q.tail,B:=pinX S.B a}:Wst)::_):=rw_close ⟨hp_.2.2▸wok_acq hwk_.1 2 a,zv_pin hwk_.2 a⟩ h78
  exact en (.tuple #[.agg #[iV ((pinO S.B a).1),iV ((pinO S.B a).2.1),uV ((pinO S.B a).2.2)],iV (pinE S.B a)]) [rd 0 0 0 0 3 h77] ⟨_,[WdR b ({S with q:=S.q.tail,B:=pinX S.B a}:Wst)],rfl,⟨by rw[hp_.1,hp_.2.1];simp only[he0_],by rw[hp_.2.2]⟩,h79.i.a.t2⟩
 have h81:=h45.h.t10
 refine go [.v 6 1 (qnT (pinE S.B a) 0)]<|sA [iV 0,iV 0,uV 0] h81 fun _ h83=>g0 ?_
 have hp_:=acq_err (S:=S) (god2 ha) (pin_grw (S:=S) ha).1.symm om
 exact en (.tuple #[.agg #[iV 0,iV 0,uV 0],iV (pinE S.B a)]) [rd 0 0 0 0 3 h83] ⟨_,[WdR b S],rfl,⟨by rw[hp_.1,hp_.2.1],by rw[hp_.2.2]⟩,(tk2 (sf1 (sf9 h83.h.t10)))⟩
theorem racq_2n(b:Nat)(S:Wst)(a:Int)(ha:a<1∨65536<a)(hng: ¬godP 2 a):HQ 70 [pV b,iV 2,iV a] [WdR b S] (.tuple #[.agg #[iV (acqO S 2 a).1,iV (acqO S 2 a).2.1,uV (acqO S 2 a).2.2],iV (acqE S 2 a)]) [WdR b (acqS S 2 a)]:=by
 refine hiS func70 ntmps70 fun g w0 R h0=> ?_
 have hwk_:=rw_get (j:=0) h0 rfl;have hhd_:=headD_bd hwk_.1.qb;have hhda_:=hhd_.1;have hhdb_:=hhd_.2;have hnwa_:=hwk_.1.nl;have hnwb_:=hwk_.1.nh
 refine g0<|nP 72 [iV 0,iV 0,uV 0] h0 (fun r10 _ h12=> ?_)
 obtain⟨f16,p17,d18,s19,l20,hP14,h15⟩:=rw_open h12.a.t3
 have hP14n:=hP14.1.nl;have hP14m:=hP14.1.nh;have hP14t:=hP14.1.tn
 refine g0<|cl1 call79 (r12v b (pV f16) (pV p17) (pV d18) (pV s19) (pV l20) (iV S.now)) h15 fun _ h22=>g0 ?_
 by_cases c23:1≤a
 ·
  refine cl0 call145 (rgod_2n a om) h22 fun _ h25=> ?_
  have h26:=h25.f.t8
  refine g0<|sA [iV 0,iV 0,uV 0] h26 fun w27 h28=>g0 ?_
  have hp_:=acq_arg (S:=S) (k:=2) (a:=a) hng
  have h30:sat g _ (WdR b S::_):=rw_close hP14 h28.f.f.f.f.f.f.t8
  exact en (.tuple #[.agg #[iV 0,iV 0,uV 0],iV 2]) [rd 0 0 0 0 3 h28] ⟨_,[WdR b S],rfl,⟨by rw[hp_.1,hp_.2.1],by rw[hp_.2.2]⟩,h30.B.t2⟩
 refine cl0 call145 (rgod_2n a om) h22 fun _ h33=> ?_
 have h34:=h33.f.t8
 refine g0<|sA [iV 0,iV 0,uV 0] h34 fun w35 h36=>g0 ?_
 have hp_:=acq_arg (S:=S) (k:=2) (a:=a) hng
 have h38:sat g _ (WdR b S::_):=rw_close hP14 h36.f.f.f.f.f.f.t8
 exact en (.tuple #[.agg #[iV 0,iV 0,uV 0],iV 2]) [rd 0 0 0 0 3 h36] ⟨_,[WdR b S],rfl,⟨by rw[hp_.1,hp_.2.1],by rw[hp_.2.2]⟩,h38.B.t2⟩
theorem racq_3(b:Nat)(S:Wst)(a:Int)(ha:1≤a∧a≤1048576):HQ 70 [pV b,iV 3,iV a] [WdR b S] (.tuple #[.agg #[iV (acqO S 3 a).1,iV (acqO S 3 a).2.1,uV (acqO S 3 a).2.2],iV (acqE S 3 a)]) [WdR b (acqS S 3 a)]:=by
 refine hiS func70 ntmps70 fun g w0 R h0=> ?_
 have hwk_:=rw_get (j:=0) h0 rfl;have hhd_:=headD_bd hwk_.1.qb;have hhda_:=hhd_.1;have hhdb_:=hhd_.2;have hnwa_:=hwk_.1.nl;have hnwb_:=hwk_.1.nh
 refine g0<|nP 72 [iV 0,iV 0,uV 0] h0 (fun r10 _ h12=> ?_)
 obtain⟨f16,p17,d18,s19,l20,hP14,h15⟩:=rw_open h12.a.t3
 have hP14n:=hP14.1.nl;have hP14m:=hP14.1.nh;have hP14t:=hP14.1.tn
 refine g0<|cl1 call79 (r12v b (pV f16) (pV p17) (pV d18) (pV s19) (pV l20) (iV S.now)) h15 fun _ h22=>g0<|cl0 call145 (rgod_3y a om) h22 fun w23 h24=> ?_
 have h25:sat g _ (WdR b S::_):=rw_close hP14 h24
 refine g0<|cP call84 (r12copy_ht b S) h25 ?_
 rintro v K _ (⟨b26,rfl,rfl⟩) h28
 obtain⟨f33,p34,d35,s36,l37,hP31,h32⟩:=rw_open ((ap2 h28).a.t4)
 have hP31n:=hP31.1.nl;have hP31m:=hP31.1.nh;have hP31t:=hP31.1.tn
 have h38:=h32.c.a.t9
 refine g0<|cl2 call146 (r12get_3 b26 f33 p34 d35 s36 l37 S.now S.D a om om) h38 fun _ h40=>g0<|nP 72 [iV 0,iV 0,uV 0] h40 (fun r41 _ h43=> ?_)
 refine sA [iV ((gntO S.D a S.now).1),iV ((gntO S.D a S.now).2.1),uV ((gntO S.D a S.now).2.2)] h43 fun _ h45=>go [.s 6 1] ?_
 by_cases c46:(gntE S.D a S.now)=0
 ·
  obtain⟨f50,p51,d52,s53,l54,hP48,h49⟩:=rw_open h45.x.t10
  have hP48n:=hP48.1.nl;have hP48m:=hP48.1.nh;have hP48t:=hP48.1.tn
  have h55:=h49.d.t15
  refine go [.v 6 1 (qnF (gntE S.D a S.now) 0),rd 8 3 0 4 1 h49]<|cl1 call147 (rnext_ht s53 S.q) h55 fun _ h57=>go [.s 9 0] ?_
  by_cases c58:(S.q.headD 1)=2
  ·
   have h59:=h57.m.t15
   refine go [.v 9 0 (qeT _ _ c58)]<|sA [iV 0,iV 0,uV 0] h59 fun w60 h61=>g0 ?_
   have hp_:=acq_later (S:=S) (god3 ha) ((gnt_grw (S:=S) ha).1.symm.trans om) om
   have h62:=h61.f.b.f.f.f.f.t15
   have h63:sat g _ (WdR b ({S with q:=S.q.tail}:Wst)::_):=rw_close ⟨hp_.2.2▸wok_acq hwk_.1 3 a,hwk_.2⟩ h62
   exact en (.tuple #[.agg #[iV 0,iV 0,uV 0],iV 15]) [rd 0 0 0 0 3 h61] ⟨_,[WdR b ({S with q:=S.q.tail}:Wst)],rfl,⟨by rw[hp_.1,hp_.2.1],by rw[hp_.2.2]⟩,h63.i.a.t2⟩
  refine go [.v 9 0 (qeF _ _ c58),.s 11 0] ?_
  by_cases c65:(S.q.headD 1)=3
  ·
   have h66:=h57.m.t15
   refine go [.v 11 0 (qeT _ _ c65)]<|sA [iV 0,iV 0,uV 0] h66 fun w67 h68=>g0 ?_
   have hp_:=acq_fail (S:=S) (god3 ha) ((gnt_grw (S:=S) ha).1.symm.trans om) om om
   have h69:=h68.f.b.f.f.f.f.t15
   have h70:sat g _ (WdR b ({S with q:=S.q.tail}:Wst)::_):=rw_close ⟨hp_.2.2▸wok_acq hwk_.1 3 a,hwk_.2⟩ h69
   exact en (.tuple #[.agg #[iV 0,iV 0,uV 0],iV 14]) [rd 0 0 0 0 3 h68] ⟨_,[WdR b ({S with q:=S.q.tail}:Wst)],rfl,⟨by rw[hp_.1,hp_.2.1],by rw[hp_.2.2]⟩,h70.i.a.t2⟩
  have h72:=h57.d.b.t15
  refine go [.v 11 0 (qeF _ _ c65)]<|cl2 call146 (r12get_3 b f50 p51 d52 s53 l54 S.now S.D a om om) h72 fun _ h74=> ?_
  have h75:=h74.m.t15
  refine g0<|sA [iV ((gntO S.D a S.now).1),iV ((gntO S.D a S.now).2.1),uV ((gntO S.D a S.now).2.2)] h75 fun w76 h77=>g0 ?_
  have hp_:=acq_ok3 (S:=S) ha om om om
  have he0_:(gntE S.D a S.now)=0:=by omega
  have h78:=h77.f.d.d.f.f.f.t15
  have h79:sat g _ (WdR b ({S with q:=S.q.tail,D:=gntX S.D a S.now}:Wst)::_):=rw_close ⟨hp_.2.2▸wok_acq hwk_.1 3 a,hwk_.2⟩ h78
  exact en (.tuple #[.agg #[iV ((gntO S.D a S.now).1),iV ((gntO S.D a S.now).2.1),uV ((gntO S.D a S.now).2.2)],iV (gntE S.D a S.now)]) [rd 0 0 0 0 3 h77] ⟨_,[WdR b ({S with q:=S.q.tail,D:=gntX S.D a S.now}:Wst)],rfl,⟨by rw[hp_.1,hp_.2.1];simp only[he0_],by rw[hp_.2.2]⟩,h79.i.a.t2⟩
 have h81:=h45.h.t10
 refine go [.v 6 1 (qnT (gntE S.D a S.now) 0)]<|sA [iV 0,iV 0,uV 0] h81 fun _ h83=>g0 ?_
 have hp_:=acq_err (S:=S) (god3 ha) (gnt_grw (S:=S) ha).1.symm om
 exact en (.tuple #[.agg #[iV 0,iV 0,uV 0],iV (gntE S.D a S.now)]) [rd 0 0 0 0 3 h83] ⟨_,[WdR b S],rfl,⟨by rw[hp_.1,hp_.2.1],by rw[hp_.2.2]⟩,(tk2 (sf1 (sf9 h83.h.t10)))⟩
theorem racq_3n(b:Nat)(S:Wst)(a:Int)(ha:a<1∨1048576<a)(hng: ¬godP 3 a):HQ 70 [pV b,iV 3,iV a] [WdR b S] (.tuple #[.agg #[iV (acqO S 3 a).1,iV (acqO S 3 a).2.1,uV (acqO S 3 a).2.2],iV (acqE S 3 a)]) [WdR b (acqS S 3 a)]:=by
 refine hiS func70 ntmps70 fun g w0 R h0=> ?_
 have hwk_:=rw_get (j:=0) h0 rfl;have hhd_:=headD_bd hwk_.1.qb;have hhda_:=hhd_.1;have hhdb_:=hhd_.2;have hnwa_:=hwk_.1.nl;have hnwb_:=hwk_.1.nh
 refine g0<|nP 72 [iV 0,iV 0,uV 0] h0 (fun r10 _ h12=> ?_)
 obtain⟨f16,p17,d18,s19,l20,hP14,h15⟩:=rw_open h12.a.t3
 have hP14n:=hP14.1.nl;have hP14m:=hP14.1.nh;have hP14t:=hP14.1.tn
 refine g0<|cl1 call79 (r12v b (pV f16) (pV p17) (pV d18) (pV s19) (pV l20) (iV S.now)) h15 fun _ h22=>g0 ?_
 by_cases c23:1≤a
 ·
  refine cl0 call145 (rgod_3n a om) h22 fun _ h25=> ?_
  have h26:=h25.f.t8
  refine g0<|sA [iV 0,iV 0,uV 0] h26 fun w27 h28=>g0 ?_
  have hp_:=acq_arg (S:=S) (k:=3) (a:=a) hng
  have h30:sat g _ (WdR b S::_):=rw_close hP14 h28.f.f.f.f.f.f.t8
  exact en (.tuple #[.agg #[iV 0,iV 0,uV 0],iV 2]) [rd 0 0 0 0 3 h28] ⟨_,[WdR b S],rfl,⟨by rw[hp_.1,hp_.2.1],by rw[hp_.2.2]⟩,h30.B.t2⟩
 refine cl0 call145 (rgod_3n a om) h22 fun _ h33=> ?_
 have h34:=h33.f.t8
 refine g0<|sA [iV 0,iV 0,uV 0] h34 fun w35 h36=>g0 ?_
 have hp_:=acq_arg (S:=S) (k:=3) (a:=a) hng
 have h38:sat g _ (WdR b S::_):=rw_close hP14 h36.f.f.f.f.f.f.t8
 exact en (.tuple #[.agg #[iV 0,iV 0,uV 0],iV 2]) [rd 0 0 0 0 3 h36] ⟨_,[WdR b S],rfl,⟨by rw[hp_.1,hp_.2.1],by rw[hp_.2.2]⟩,h38.B.t2⟩
theorem racq_0(b:Nat)(S:Wst)(k a:Int)(hk:k<1∨3<k)(hng: ¬godP k a):HQ 70 [pV b,iV k,iV a] [WdR b S] (.tuple #[.agg #[iV (acqO S k a).1,iV (acqO S k a).2.1,uV (acqO S k a).2.2],iV (acqE S k a)]) [WdR b (acqS S k a)]:=by
 refine hiS func70 ntmps70 fun g w0 R h0=> ?_
 have hwk_:=rw_get (j:=0) h0 rfl;have hhd_:=headD_bd hwk_.1.qb;have hhda_:=hhd_.1;have hhdb_:=hhd_.2;have hnwa_:=hwk_.1.nl;have hnwb_:=hwk_.1.nh
 refine g0<|nP 72 [iV 0,iV 0,uV 0] h0 (fun r10 _ h12=> ?_)
 obtain⟨f16,p17,d18,s19,l20,hP14,h15⟩:=rw_open h12.a.t3
 have hP14n:=hP14.1.nl;have hP14m:=hP14.1.nh;have hP14t:=hP14.1.tn
 refine g0<|cl1 call79 (r12v b (pV f16) (pV p17) (pV d18) (pV s19) (pV l20) (iV S.now)) h15 fun _ h22=>g0<|cl0 call145 (rgod_0 k a om) h22 fun _ h24=> ?_
 have h25:=h24.f.t8
 refine g0<|sA [iV 0,iV 0,uV 0] h25 fun w26 h27=>g0 ?_
 have hp_:=acq_arg (S:=S) (k:=k) (a:=a) hng
 have h29:sat g _ (WdR b S::_):=rw_close hP14 h27.f.f.f.f.f.f.t8
 exact en (.tuple #[.agg #[iV 0,iV 0,uV 0],iV 2]) [rd 0 0 0 0 3 h27] ⟨_,[WdR b S],rfl,⟨by rw[hp_.1,hp_.2.1],by rw[hp_.2.2]⟩,h29.B.t2⟩
theorem racq_ht(b:Nat)(S:Wst)(k a:Int):HQ 70 [pV b,iV k,iV a] [WdR b S] (Value.tuple #[Value.agg #[Value.int .i64 (acqO S k a).1,Value.int .i64 (acqO S k a).2.1,Value.int .u32 (acqO S k a).2.2],Value.int .i64 (acqE S k a)]) [WdR b (acqS S k a)]:=by
 by_cases h1:k=1
 · subst h1
   by_cases h:0≤a∧a≤65535
   · exact racq_1 b S a h
   · exact racq_1n b S a om (god_no1 h)
 · by_cases h2:k=2
   · subst h2
     by_cases h:1≤a∧a≤65536
     · exact racq_2 b S a h
     · exact racq_2n b S a om (god_no2 h)
   · by_cases h3:k=3
     · subst h3
       by_cases h:1≤a∧a≤1048576
       · exact racq_3 b S a h
       · exact racq_3n b S a om (god_no3 h)
     · exact racq_0 b S k a om (god_no om)
theorem rrel_no(b:Nat)(S:Wst)(x y z wy:Int)(hz0:0≤z)(hz1:z≤4294967295)(hg: ¬(1≤x∧x≤3∧0≤y∧y≤63∧1≤z)):HQ 87 [pV b,.agg #[iV x,iV y,uV z],iV wy] [WdR b S] (.tuple #[iV (relA S (x,y,z) wy),iV (relE S (x,y,z) wy)]) [WdR b (relS S (x,y,z) wy)]:=by
 refine hiS func87 ntmps87 fun g w0 R h0=> ?_
 have hwk_:=rw_get (j:=0) h0 rfl;have hhd_:=headD_bd hwk_.1.qb;have hhda_:=hhd_.1;have hhdb_:=hhd_.2;have hnwa_:=hwk_.1.nl;have hnwb_:=hwk_.1.nh
 refine g0<|nP 72 [iV x,iV y,uV z] h0 (fun r10 _ h12=> ?_)
 obtain⟨f16,p17,d18,s19,l20,hP14,h15⟩:=rw_open h12.a.t3
 have hP14n:=hP14.1.nl;have hP14m:=hP14.1.nh;have hP14t:=hP14.1.tn
 refine g0<|cl1 call79 (r12v b (pV f16) (pV p17) (pV d18) (pV s19) (pV l20) (iV S.now)) h15 fun _ h22=>go [rd 3 0 6 0 3 h22]<|cl0 call173 (dcouter_no x y z om om om) h22 fun w23 h24=>g0 ?_
 have hp_:=rel_arg (S:=S) (o:=(x,y,z)) (wy:=wy) (.inl hg)
 have h25:sat g _ (WdR b S::_):=rw_close hP14 h24
 exact en (.tuple #[iV 0,iV 2]) [] ⟨_,[WdR b S],rfl,⟨by rw[hp_.1,hp_.2.1],by rw[hp_.2.2]⟩,h25.B.t2⟩
theorem rrel_wy(b:Nat)(S:Wst)(x y z:Int)(hz0:0≤z)(hz1:z≤4294967295)(hg:KGood (x,y,z))(hy0:0≤y)(hy1:y≤63)(hz:1≤z)(hx:1≤x∧x≤3)(wy:Int)(hwy:wy<1∨3<wy):HQ 87 [pV b,.agg #[iV x,iV y,uV z],iV wy] [WdR b S] (.tuple #[iV (relA S (x,y,z) wy),iV (relE S (x,y,z) wy)]) [WdR b (relS S (x,y,z) wy)]:=by
 refine hiS func87 ntmps87 fun g w0 R h0=> ?_
 have hwk_:=rw_get (j:=0) h0 rfl;have hhd_:=headD_bd hwk_.1.qb;have hhda_:=hhd_.1;have hhdb_:=hhd_.2;have hnwa_:=hwk_.1.nl;have hnwb_:=hwk_.1.nh
 refine g0<|nP 72 [iV x,iV y,uV z] h0 (fun r10 _ h12=> ?_)
 obtain⟨f16,p17,d18,s19,l20,hP14,h15⟩:=rw_open h12.a.t3
 have hP14n:=hP14.1.nl;have hP14m:=hP14.1.nh;have hP14t:=hP14.1.tn
 refine g0<|cl1 call79 (r12v b (pV f16) (pV p17) (pV d18) (pV s19) (pV l20) (iV S.now)) h15 fun _ h22=>go [rd 3 0 6 0 3 h22]<|cl0 call173 (dcouter_ok x y z om om om) h22 fun w23 h24=>go [.s 3 5] ?_
 by_cases c25:wy<1
 ·
  refine go [.v 3 5 (oT _ c25)] ?_
  have hp_:=rel_arg (S:=S) (o:=(x,y,z)) (wy:=wy) (.inr hwy)
  have h26:sat g _ (WdR b S::_):=rw_close hP14 h24
  exact en (.tuple #[iV 0,iV 2]) [] ⟨_,[WdR b S],rfl,⟨by rw[hp_.1,hp_.2.1],by rw[hp_.2.2]⟩,h26.B.t2⟩
 refine go [.v 3 5 (oF _ c25),.v 3 9 (oT (wy>3))] ?_
 have hp_:=rel_arg (S:=S) (o:=(x,y,z)) (wy:=wy) (.inr hwy)
 have h28:sat g _ (WdR b S::_):=rw_close hP14 h24
 exact en (.tuple #[iV 0,iV 2]) [] ⟨_,[WdR b S],rfl,⟨by rw[hp_.1,hp_.2.1],by rw[hp_.2.2]⟩,h28.B.t2⟩
theorem rrel_none(b:Nat)(S:Wst)(x y z:Int)(hz0:0≤z)(hz1:z≤4294967295)(hg:KGood (x,y,z))(hy0:0≤y)(hy1:y≤63)(hz:1≤z)(hx:1≤x∧x≤3)(hT: ¬Thr S (x,y,z))(wy:Int)(hwy:1≤wy∧wy≤3):HQ 87 [pV b,.agg #[iV x,iV y,uV z],iV wy] [WdR b S] (.tuple #[iV (relA S (x,y,z) wy),iV (relE S (x,y,z) wy)]) [WdR b (relS S (x,y,z) wy)]:=by
 refine hiS func87 ntmps87 fun g w0 R h0=> ?_
 have hwk_:=rw_get (j:=0) h0 rfl;have hhd_:=headD_bd hwk_.1.qb;have hhda_:=hhd_.1;have hhdb_:=hhd_.2;have hnwa_:=hwk_.1.nl;have hnwb_:=hwk_.1.nh
 refine g0<|nP 72 [iV x,iV y,uV z] h0 (fun r10 _ h12=> ?_)
 obtain⟨f16,p17,d18,s19,l20,hP14,h15⟩:=rw_open h12.a.t3
 have hP14n:=hP14.1.nl;have hP14m:=hP14.1.nh;have hP14t:=hP14.1.tn
 refine g0<|cl1 call79 (r12v b (pV f16) (pV p17) (pV d18) (pV s19) (pV l20) (iV S.now)) h15 fun _ h22=>go [rd 3 0 6 0 3 h22]<|cl0 call173 (dcouter_ok x y z om om om) h22 fun w23 h24=> ?_
 have h25:sat g _ (WdR b S::_):=rw_close hP14 h24
 refine go [.v 3 5 (oF (wy<1)),.v 3 9 (oF (wy>3)),rd 5 1 6 0 3 h24]<|cl1 call174 (by have h_:=r12has_ht b S x y z;rw[decide_eq_false hT] at h_;exact h_) h25 fun _ h27=> ?_
 refine g0 ?_
 have hp_:=rel_none (S:=S) (o:=(x,y,z)) hg hwy hT
 exact en (.tuple #[iV 0,iV 5]) [] ⟨_,[WdR b S],rfl,⟨by rw[hp_.1,hp_.2.1],by rw[hp_.2.2]⟩,h27.B.t2⟩
theorem rrel_full(b:Nat)(S:Wst)(x y z:Int)(hz0:0≤z)(hz1:z≤4294967295)(hg:KGood (x,y,z))(hy0:0≤y)(hy1:y≤63)(hz:1≤z)(hx:1≤x∧x≤3)(hT:Thr S (x,y,z))(wy:Int)(hwy:1≤wy∧wy≤3)(hn:10000≤S.T.length):HQ 87 [pV b,.agg #[iV x,iV y,uV z],iV wy] [WdR b S] (.tuple #[iV (relA S (x,y,z) wy),iV (relE S (x,y,z) wy)]) [WdR b (relS S (x,y,z) wy)]:=by
 refine hiS func87 ntmps87 fun g w0 R h0=> ?_
 have hwk_:=rw_get (j:=0) h0 rfl;have hhd_:=headD_bd hwk_.1.qb;have hhda_:=hhd_.1;have hhdb_:=hhd_.2;have hnwa_:=hwk_.1.nl;have hnwb_:=hwk_.1.nh
 refine g0<|nP 72 [iV x,iV y,uV z] h0 (fun r10 _ h12=> ?_)
 obtain⟨f16,p17,d18,s19,l20,hP14,h15⟩:=rw_open h12.a.t3
 have hP14n:=hP14.1.nl;have hP14m:=hP14.1.nh;have hP14t:=hP14.1.tn
 refine g0<|cl1 call79 (r12v b (pV f16) (pV p17) (pV d18) (pV s19) (pV l20) (iV S.now)) h15 fun _ h22=>go [rd 3 0 6 0 3 h22]<|cl0 call173 (dcouter_ok x y z om om om) h22 fun w23 h24=> ?_
 have h25:sat g _ (WdR b S::_):=rw_close hP14 h24
 refine go [.v 3 5 (oF (wy<1)),.v 3 9 (oF (wy>3)),rd 5 1 6 0 3 h24]<|cl1 call174 (by have h_:=r12has_ht b S x y z;rw[decide_eq_true hT] at h_;exact h_) h25 fun _ h27=> ?_
 obtain⟨f30,p31,d32,s33,l34,hP28,h29⟩:=rw_open h27
 have hP28n:=hP28.1.nl;have hP28m:=hP28.1.nh;have hP28t:=hP28.1.tn
 have h35:=h29.e.t8
 refine go [rd 7 3 0 5 1 h29]<|cl1 call175 (r7len_ht l34 S.T) h35 fun w36 h37=>go [.v 7 5 (oT ((S.T.length:Int)≥10000))] ?_
 have hp_:=rel_full (S:=S) (o:=(x,y,z)) hwy hT hn
 have h39:sat g _ (WdR b S::_):=rw_close hP28 h37.e.e.e.e.e.t8
 exact en (.tuple #[iV 0,iV 4]) [] ⟨_,[WdR b S],rfl,⟨by rw[hp_.1,hp_.2.1],by rw[hp_.2.2]⟩,h39.B.t2⟩
theorem rrel_1(b:Nat)(S:Wst)(y z:Int)(hz0:0≤z)(hz1:z≤4294967295)(hg:KGood (1,y,z))(hy0:0≤y)(hy1:y≤63)(hz:1≤z)(hT:Thr S (1,y,z))(wy:Int)(hwy:1≤wy∧wy≤3)(hn:S.T.length<10000):HQ 87 [pV b,.agg #[iV 1,iV y,uV z],iV wy] [WdR b S] (.tuple #[iV (relA S (1,y,z) wy),iV (relE S (1,y,z) wy)]) [WdR b (relS S (1,y,z) wy)]:=by
 refine hiS func87 ntmps87 fun g w0 R h0=> ?_
 have hwk_:=rw_get (j:=0) h0 rfl;have hhd_:=headD_bd hwk_.1.qb;have hhda_:=hhd_.1;have hhdb_:=hhd_.2;have hnwa_:=hwk_.1.nl;have hnwb_:=hwk_.1.nh
 refine g0<|nP 72 [iV 1,iV y,uV z] h0 (fun r10 _ h12=> ?_)
 obtain⟨f16,p17,d18,s19,l20,hP14,h15⟩:=rw_open h12.a.t3
 have hP14n:=hP14.1.nl;have hP14m:=hP14.1.nh;have hP14t:=hP14.1.tn
 refine g0<|cl1 call79 (r12v b (pV f16) (pV p17) (pV d18) (pV s19) (pV l20) (iV S.now)) h15 fun _ h22=>go [rd 3 0 6 0 3 h22]<|cl0 call173 (dcouter_ok 1 y z om om om) h22 fun w23 h24=> ?_
 have h25:sat g _ (WdR b S::_):=rw_close hP14 h24
 refine go [.v 3 5 (oF (wy<1)),.v 3 9 (oF (wy>3)),rd 5 1 6 0 3 h24]<|cl1 call174 (by have h_:=r12has_ht b S 1 y z;rw[decide_eq_true hT] at h_;exact h_) h25 fun _ h27=> ?_
 obtain⟨f30,p31,d32,s33,l34,hP28,h29⟩:=rw_open h27
 have hP28n:=hP28.1.nl;have hP28m:=hP28.1.nh;have hP28t:=hP28.1.tn
 have h35:=h29.e.t8
 refine go [rd 7 3 0 5 1 h29]<|cl1 call175 (r7len_ht l34 S.T) h35 fun _ h37=> ?_
 have h38:=h37.e.t8
 refine go [.v 7 5 (oF ((S.T.length:Int)≥10000)),rd 9 3 1 4 1 h37]<|cl1 call147 (rnext_ht s33 S.q) h38 fun _ h40=>g0<|dw (fls [0,1,2,3,4,5,6,7,8,9,10,11] (Tr.an 12 Tr.nil)) h40 fun _ h42=> ?_
 have h43:=h42.a.t8
 refine go [rd 10 3 2 5 1 h42,rd 10 7 2 6 1 h42,rd 10 8 6 0 3 h42]<|cw1 call176 (r7add_ht l34 S.T S.now 1 y z wy (S.q.headD 1) om om ⟨by omega,by omega,hg,by omega,by omega,by omega,by omega⟩ hwk_.1.ta om) h43 fun w44 h45=>⟨kd [],?_⟩
 refine go [.s 11 1] ?_
 by_cases c46:(S.q.headD 1)=1
 ·
  refine go [.v 11 1 (qnF (S.q.headD 1) 1),rd 13 1 6 0 1 h45]<|dw (fls [0,1,2,3,4] (Tr.an 5 Tr.nil)) h45 fun _ h48=> ?_
  have h49:=h48.c.t8
  refine go [rd 16 3 2 1 1 h48,rd 16 4 6 0 3 h48]<|cw1 call177 (by have h_:=r9close_ht f30 64 S.F 1 y z om om;rw[show clsX S.F (1,y,z)=giv S.F (1,y,z) from cls_giv hT] at h_;exact h_) h49 fun w50 h51=>⟨kd [],?_⟩
  refine g0 ?_
  have hp_:=rel_ok (S:=S) (o:=(1,y,z)) hwy hT hn
  have hp2_:relS S (1,y,z) wy=({S with q:=S.q.tail,T:=S.T++ [⟨S.now,(1,y,z),wy,S.q.headD 1⟩],F:=giv S.F (1,y,z)}:Wst):=hp_.2.2.trans (if_pos om)
  have h52:=h51.b.e.e.c.e.t8
  have h53:sat g _ (WdR b ({S with q:=S.q.tail,T:=S.T++ [⟨S.now,(1,y,z),wy,S.q.headD 1⟩],F:=giv S.F (1,y,z)}:Wst)::_):=rw_close ⟨hp2_▸wok_rel hwk_.1 (1,y,z) wy,hwk_.2⟩ h52
  exact en (.tuple #[iV (S.q.headD 1),iV 0]) [] ⟨_,[WdR b ({S with q:=S.q.tail,T:=S.T++ [⟨S.now,(1,y,z),wy,S.q.headD 1⟩],F:=giv S.F (1,y,z)}:Wst)],rfl,⟨by rw[hp_.1,hp_.2.1],by rw[hp2_]⟩,h53.B.t2⟩
 refine go [.v 11 1 (qnT (S.q.headD 1) 1)] ?_
 have hp_:=rel_ok (S:=S) (o:=(1,y,z)) hwy hT hn
 have hp2_:relS S (1,y,z) wy=({S with q:=S.q.tail,T:=S.T++ [⟨S.now,(1,y,z),wy,S.q.headD 1⟩]}:Wst):=hp_.2.2.trans (if_neg om)
 have h55:=h45.a.e.e.e.e.t8
 have h56:sat g _ (WdR b ({S with q:=S.q.tail,T:=S.T++ [⟨S.now,(1,y,z),wy,S.q.headD 1⟩]}:Wst)::_):=rw_close ⟨hp2_▸wok_rel hwk_.1 (1,y,z) wy,hwk_.2⟩ h55
 exact en (.tuple #[iV (S.q.headD 1),iV 0]) [] ⟨_,[WdR b ({S with q:=S.q.tail,T:=S.T++ [⟨S.now,(1,y,z),wy,S.q.headD 1⟩]}:Wst)],rfl,⟨by rw[hp_.1,hp_.2.1],by rw[hp2_]⟩,h56.B.t2⟩
theorem rrel_2(b:Nat)(S:Wst)(y z:Int)(hz0:0≤z)(hz1:z≤4294967295)(hg:KGood (2,y,z))(hy0:0≤y)(hy1:y≤63)(hz:1≤z)(hT:Thr S (2,y,z))(wy:Int)(hwy:1≤wy∧wy≤3)(hn:S.T.length<10000):HQ 87 [pV b,.agg #[iV 2,iV y,uV z],iV wy] [WdR b S] (.tuple #[iV (relA S (2,y,z) wy),iV (relE S (2,y,z) wy)]) [WdR b (relS S (2,y,z) wy)]:=by
 refine hiS func87 ntmps87 fun g w0 R h0=> ?_
 have hwk_:=rw_get (j:=0) h0 rfl;have hhd_:=headD_bd hwk_.1.qb;have hhda_:=hhd_.1;have hhdb_:=hhd_.2;have hnwa_:=hwk_.1.nl;have hnwb_:=hwk_.1.nh
 refine g0<|nP 72 [iV 2,iV y,uV z] h0 (fun r10 _ h12=> ?_)
 obtain⟨f16,p17,d18,s19,l20,hP14,h15⟩:=rw_open h12.a.t3
 have hP14n:=hP14.1.nl;have hP14m:=hP14.1.nh;have hP14t:=hP14.1.tn
 refine g0<|cl1 call79 (r12v b (pV f16) (pV p17) (pV d18) (pV s19) (pV l20) (iV S.now)) h15 fun _ h22=>go [rd 3 0 6 0 3 h22]<|cl0 call173 (dcouter_ok 2 y z om om om) h22 fun w23 h24=> ?_
 have h25:sat g _ (WdR b S::_):=rw_close hP14 h24
 refine go [.v 3 5 (oF (wy<1)),.v 3 9 (oF (wy>3)),rd 5 1 6 0 3 h24]<|cl1 call174 (by have h_:=r12has_ht b S 2 y z;rw[decide_eq_true hT] at h_;exact h_) h25 fun _ h27=> ?_
 obtain⟨f30,p31,d32,s33,l34,hP28,h29⟩:=rw_open h27
 have hP28n:=hP28.1.nl;have hP28m:=hP28.1.nh;have hP28t:=hP28.1.tn
 have h35:=h29.e.t8
 refine go [rd 7 3 0 5 1 h29]<|cl1 call175 (r7len_ht l34 S.T) h35 fun _ h37=> ?_
 have h38:=h37.e.t8
 refine go [.v 7 5 (oF ((S.T.length:Int)≥10000)),rd 9 3 1 4 1 h37]<|cl1 call147 (rnext_ht s33 S.q) h38 fun _ h40=>g0<|dw (fls [0,1,2,3,4,5,6,7,8,9,10,11] (Tr.an 12 Tr.nil)) h40 fun _ h42=> ?_
 have h43:=h42.a.t8
 refine go [rd 10 3 2 5 1 h42,rd 10 7 2 6 1 h42,rd 10 8 6 0 3 h42]<|cw1 call176 (r7add_ht l34 S.T S.now 2 y z wy (S.q.headD 1) om om ⟨by omega,by omega,hg,by omega,by omega,by omega,by omega⟩ hwk_.1.ta om) h43 fun w44 h45=>⟨kd [],?_⟩
 refine go [.s 11 1] ?_
 by_cases c46:(S.q.headD 1)=1
 ·
  refine go [.v 11 1 (qnF (S.q.headD 1) 1),rd 13 1 6 0 1 h45]<|dw (fls [0,1,2,3,4] (Tr.an 5 Tr.nil)) h45 fun _ h48=> ?_
  have h49:=h48.d.t8
  refine go [rd 18 3 2 2 1 h48,rd 18 4 6 0 3 h48]<|cw1 call178 (r10unpin_ht p31 S.B y z (thr_at hT) ⟨by omega,by omega⟩ ⟨by omega,by omega⟩) h49 fun w50 h51=>⟨kd [],?_⟩
  refine g0 ?_
  have hp_:=rel_ok (S:=S) (o:=(2,y,z)) hwy hT hn
  have hp2_:relS S (2,y,z) wy=({S with q:=S.q.tail,T:=S.T++ [⟨S.now,(2,y,z),wy,S.q.headD 1⟩],B:=giv S.B (2,y,z)}:Wst):=hp_.2.2.trans (if_pos om)
  have h52:=h51.b.e.b.e.e.t8
  have h53:sat g _ (WdR b ({S with q:=S.q.tail,T:=S.T++ [⟨S.now,(2,y,z),wy,S.q.headD 1⟩],B:=giv S.B (2,y,z)}:Wst)::_):=rw_close ⟨hp2_▸wok_rel hwk_.1 (2,y,z) wy,zv_giv hwk_.2 _⟩ h52
  exact en (.tuple #[iV (S.q.headD 1),iV 0]) [] ⟨_,[WdR b ({S with q:=S.q.tail,T:=S.T++ [⟨S.now,(2,y,z),wy,S.q.headD 1⟩],B:=giv S.B (2,y,z)}:Wst)],rfl,⟨by rw[hp_.1,hp_.2.1],by rw[hp2_]⟩,h53.B.t2⟩
 refine go [.v 11 1 (qnT (S.q.headD 1) 1)] ?_
 have hp_:=rel_ok (S:=S) (o:=(2,y,z)) hwy hT hn
 have hp2_:relS S (2,y,z) wy=({S with q:=S.q.tail,T:=S.T++ [⟨S.now,(2,y,z),wy,S.q.headD 1⟩]}:Wst):=hp_.2.2.trans (if_neg om)
 have h55:=h45.a.e.e.e.e.t8
 have h56:sat g _ (WdR b ({S with q:=S.q.tail,T:=S.T++ [⟨S.now,(2,y,z),wy,S.q.headD 1⟩]}:Wst)::_):=rw_close ⟨hp2_▸wok_rel hwk_.1 (2,y,z) wy,hwk_.2⟩ h55
 exact en (.tuple #[iV (S.q.headD 1),iV 0]) [] ⟨_,[WdR b ({S with q:=S.q.tail,T:=S.T++ [⟨S.now,(2,y,z),wy,S.q.headD 1⟩]}:Wst)],rfl,⟨by rw[hp_.1,hp_.2.1],by rw[hp2_]⟩,h56.B.t2⟩
theorem rrel_3(b:Nat)(S:Wst)(y z:Int)(hz0:0≤z)(hz1:z≤4294967295)(hg:KGood (3,y,z))(hy0:0≤y)(hy1:y≤63)(hz:1≤z)(hT:Thr S (3,y,z))(wy:Int)(hwy:1≤wy∧wy≤3)(hn:S.T.length<10000):HQ 87 [pV b,.agg #[iV 3,iV y,uV z],iV wy] [WdR b S] (.tuple #[iV (relA S (3,y,z) wy),iV (relE S (3,y,z) wy)]) [WdR b (relS S (3,y,z) wy)]:=by
 refine hiS func87 ntmps87 fun g w0 R h0=> ?_
 have hwk_:=rw_get (j:=0) h0 rfl;have hhd_:=headD_bd hwk_.1.qb;have hhda_:=hhd_.1;have hhdb_:=hhd_.2;have hnwa_:=hwk_.1.nl;have hnwb_:=hwk_.1.nh
 refine g0<|nP 72 [iV 3,iV y,uV z] h0 (fun r10 _ h12=> ?_)
 obtain⟨f16,p17,d18,s19,l20,hP14,h15⟩:=rw_open h12.a.t3
 have hP14n:=hP14.1.nl;have hP14m:=hP14.1.nh;have hP14t:=hP14.1.tn
 refine g0<|cl1 call79 (r12v b (pV f16) (pV p17) (pV d18) (pV s19) (pV l20) (iV S.now)) h15 fun _ h22=>go [rd 3 0 6 0 3 h22]<|cl0 call173 (dcouter_ok 3 y z om om om) h22 fun w23 h24=> ?_
 have h25:sat g _ (WdR b S::_):=rw_close hP14 h24
 refine go [.v 3 5 (oF (wy<1)),.v 3 9 (oF (wy>3)),rd 5 1 6 0 3 h24]<|cl1 call174 (by have h_:=r12has_ht b S 3 y z;rw[decide_eq_true hT] at h_;exact h_) h25 fun _ h27=> ?_
 obtain⟨f30,p31,d32,s33,l34,hP28,h29⟩:=rw_open h27
 have hP28n:=hP28.1.nl;have hP28m:=hP28.1.nh;have hP28t:=hP28.1.tn
 have h35:=h29.e.t8
 refine go [rd 7 3 0 5 1 h29]<|cl1 call175 (r7len_ht l34 S.T) h35 fun _ h37=> ?_
 have h38:=h37.e.t8
 refine go [.v 7 5 (oF ((S.T.length:Int)≥10000)),rd 9 3 1 4 1 h37]<|cl1 call147 (rnext_ht s33 S.q) h38 fun _ h40=>g0<|dw (fls [0,1,2,3,4,5,6,7,8,9,10,11] (Tr.an 12 Tr.nil)) h40 fun _ h42=> ?_
 have h43:=h42.a.t8
 refine go [rd 10 3 2 5 1 h42,rd 10 7 2 6 1 h42,rd 10 8 6 0 3 h42]<|cw1 call176 (r7add_ht l34 S.T S.now 3 y z wy (S.q.headD 1) om om ⟨by omega,by omega,hg,by omega,by omega,by omega,by omega⟩ hwk_.1.ta om) h43 fun w44 h45=>⟨kd [],?_⟩
 refine go [.s 11 1] ?_
 by_cases c46:(S.q.headD 1)=1
 ·
  refine go [.v 11 1 (qnF (S.q.headD 1) 1),rd 13 1 6 0 1 h45]<|dw (fls [0,1,2,3,4] (Tr.an 5 Tr.nil)) h45 fun _ h48=> ?_
  have h49:=h48.e.t8
  refine go [rd 14 3 2 3 1 h48,rd 14 4 6 0 3 h48]<|cw1 call179 (r11ret_ht d32 S.D y z (thr_at hT) ⟨by omega,by omega⟩ ⟨by omega,by omega⟩) h49 fun w50 h51=>⟨kd [],?_⟩
  refine g0 ?_
  have hp_:=rel_ok (S:=S) (o:=(3,y,z)) hwy hT hn
  have hp2_:relS S (3,y,z) wy=({S with q:=S.q.tail,T:=S.T++ [⟨S.now,(3,y,z),wy,S.q.headD 1⟩],D:=giv S.D (3,y,z)}:Wst):=hp_.2.2.trans (if_pos om)
  have h52:=h51.b.a.e.e.e.t8
  have h53:sat g _ (WdR b ({S with q:=S.q.tail,T:=S.T++ [⟨S.now,(3,y,z),wy,S.q.headD 1⟩],D:=giv S.D (3,y,z)}:Wst)::_):=rw_close ⟨hp2_▸wok_rel hwk_.1 (3,y,z) wy,hwk_.2⟩ h52
  exact en (.tuple #[iV (S.q.headD 1),iV 0]) [] ⟨_,[WdR b ({S with q:=S.q.tail,T:=S.T++ [⟨S.now,(3,y,z),wy,S.q.headD 1⟩],D:=giv S.D (3,y,z)}:Wst)],rfl,⟨by rw[hp_.1,hp_.2.1],by rw[hp2_]⟩,h53.B.t2⟩
 refine go [.v 11 1 (qnT (S.q.headD 1) 1)] ?_
 have hp_:=rel_ok (S:=S) (o:=(3,y,z)) hwy hT hn
 have hp2_:relS S (3,y,z) wy=({S with q:=S.q.tail,T:=S.T++ [⟨S.now,(3,y,z),wy,S.q.headD 1⟩]}:Wst):=hp_.2.2.trans (if_neg om)
 have h55:=h45.a.e.e.e.e.t8
 have h56:sat g _ (WdR b ({S with q:=S.q.tail,T:=S.T++ [⟨S.now,(3,y,z),wy,S.q.headD 1⟩]}:Wst)::_):=rw_close ⟨hp2_▸wok_rel hwk_.1 (3,y,z) wy,hwk_.2⟩ h55
 exact en (.tuple #[iV (S.q.headD 1),iV 0]) [] ⟨_,[WdR b ({S with q:=S.q.tail,T:=S.T++ [⟨S.now,(3,y,z),wy,S.q.headD 1⟩]}:Wst)],rfl,⟨by rw[hp_.1,hp_.2.1],by rw[hp2_]⟩,h56.B.t2⟩
theorem rrel_ht(b:Nat)(S:Wst)(x y z wy:Int)(hz0:0≤z)(hz1:z≤4294967295):HQ 87 [pV b,.agg #[iV x,iV y,uV z],iV wy] [WdR b S] (Value.tuple #[Value.int .i64 (relA S (x,y,z) wy),Value.int .i64 (relE S (x,y,z) wy)]) [WdR b (relS S (x,y,z) wy)]:=by
 by_cases h:KGood (x,y,z)
 · by_cases hw:1≤wy∧wy≤3
   · by_cases hT:Thr S (x,y,z)
     · by_cases hn:S.T.length<10000
       · rcases kgood_k h with h1|h1|h1
         · have h2:x=1:=h1
           subst h2
           exact rrel_1 b S y z hz0 hz1 h h.2.2.1 h.2.2.2.1 h.2.2.2.2 hT wy hw hn
         · have h2:x=2:=h1
           subst h2
           exact rrel_2 b S y z hz0 hz1 h h.2.2.1 h.2.2.2.1 h.2.2.2.2 hT wy hw hn
         · have h2:x=3:=h1
           subst h2
           exact rrel_3 b S y z hz0 hz1 h h.2.2.1 h.2.2.2.1 h.2.2.2.2 hT wy hw hn
       · exact rrel_full b S x y z hz0 hz1 h h.2.2.1 h.2.2.2.1 h.2.2.2.2 ⟨h.1,h.2.1⟩ hT wy hw om
     · exact rrel_none b S x y z hz0 hz1 h h.2.2.1 h.2.2.2.1 h.2.2.2.2 ⟨h.1,h.2.1⟩ hT wy hw
   · exact rrel_wy b S x y z hz0 hz1 h h.2.2.1 h.2.2.2.1 h.2.2.2.2 ⟨h.1,h.2.1⟩ wy om
 · exact rrel_no b S x y z wy hz0 hz1 h
theorem tset_w(b n:Nat)(S:Ts)(vn x y z st why tr nx:Int)(L:List UInt8)(hz0:0≤z)(hz1:z≤4294967295)(hm:L.length≤1099511627776):HQ 54 [Value.pointer (some ⟨b,0,none⟩),Value.int IntKind.i64 vn,Value.agg #[Value.int IntKind.i64 x,Value.int IntKind.i64 y,Value.int IntKind.u32 z,Value.int IntKind.i64 st,Value.int IntKind.i64 why,Value.int IntKind.i64 tr,Value.int IntKind.i64 nx,Value.string (St L)]] [TW b n S] (Value.int .i64 (setE S vn ⟨(x,y,z),st,why,tr,nx,L⟩)) [TW b n (setS S vn ⟨(x,y,z),st,why,tr,nx,L⟩)]:=by
 refine ht_wi (fun W=> ?_) (fun W=>wf_set W _ _)
 have bad: ∀e:Int,setE S vn ⟨(x,y,z),st,why,tr,nx,L⟩=e→e≠0→HT prog 54 [Value.pointer (some ⟨b,0,none⟩),Value.int IntKind.i64 vn,Value.agg #[Value.int IntKind.i64 x,Value.int IntKind.i64 y,Value.int IntKind.u32 z,Value.int IntKind.i64 st,Value.int IntKind.i64 why,Value.int IntKind.i64 tr,Value.int IntKind.i64 nx,Value.string (St L)]] [Tab b n S.A S.E S.R] (fun v K=>v=Value.int .i64 e∧K= [Tab b n S.A S.E S.R])→HT prog 54 [Value.pointer (some ⟨b,0,none⟩),Value.int IntKind.i64 vn,Value.agg #[Value.int IntKind.i64 x,Value.int IntKind.i64 y,Value.int IntKind.u32 z,Value.int IntKind.i64 st,Value.int IntKind.i64 why,Value.int IntKind.i64 tr,Value.int IntKind.i64 nx,Value.string (St L)]] [Tab b n S.A S.E S.R] (fun v K=>v=Value.int .i64 (setE S vn ⟨(x,y,z),st,why,tr,nx,L⟩)∧K= [Tab b n (setS S vn ⟨(x,y,z),st,why,tr,nx,L⟩).A (setS S vn ⟨(x,y,z),st,why,tr,nx,L⟩).E (setS S vn ⟨(x,y,z),st,why,tr,nx,L⟩).R]):=fun e h1 h2 h3=>by
  rw[set_bad h1 h2,h1]
  exact h3
 by_cases hv:1≤vn∧vn≤(S.R.length:Int)
 · have hn0:nE S vn=0:=if_pos hv
   have hg:=getR_at hv
   have hq:vn=((vn-1).toNat:Int)+1:=by omega
   have hres:resR ⟨(x,y,z),st,why,tr,nx,L⟩=resE x y z st why tr nx L:=rfl
   by_cases hr:resE x y z st why tr nx L=0
   · by_cases ho:((x,y,z):Ky)=(getR S vn).out
     · have ho3:x=(getR S vn).out.1∧y=(getR S vn).out.2.1∧z=(getR S vn).out.2.2:=by rw[←ho];exact⟨rfl,rfl,rfl⟩
       by_cases ht:L=(getR S vn).tag
       · have hnn: ¬((⟨(x,y,z),st,why,tr,nx,L⟩:Rs).out≠(getR S vn).out∨(⟨(x,y,z),st,why,tr,nx,L⟩:Rs).tag≠(getR S vn).tag):=fun h=>h.elim (fun h=>h ho) (fun h=>h ht)
         by_cases hs:st=1
         · have h0:setE S vn ⟨(x,y,z),st,why,tr,nx,L⟩=0:=by unfold setE;rw[if_neg om,if_neg om,if_neg hnn,if_neg (fun h=>h.1 hs)]
           have hS:setS S vn ⟨(x,y,z),st,why,tr,nx,L⟩=⟨S.A,S.E,S.R.set (vn-1).toNat ⟨(x,y,z),st,why,tr,nx,L⟩⟩:=by unfold setS;rw[if_pos h0]
           rw[h0,hS]
           exact tset_ok1 b n S.A S.E S.R vn x y z st why tr nx L hz0 hz1 hm _ _ hg hq hr ho3 ht hs
         · by_cases hd:0<(descs S.E vn).length
           · exact bad 8 (by unfold setE;rw[if_neg om,if_neg om,if_neg hnn,if_pos ⟨hs,hd⟩]) om (tset_state b n S.A S.E S.R vn x y z st why tr nx L hz0 hz1 hm _ _ hg hq hr ho3 ht hs hd)
           · have h0:setE S vn ⟨(x,y,z),st,why,tr,nx,L⟩=0:=by unfold setE;rw[if_neg om,if_neg om,if_neg hnn,if_neg (fun h=>hd h.2)]
             have hS:setS S vn ⟨(x,y,z),st,why,tr,nx,L⟩=⟨S.A,S.E,S.R.set (vn-1).toNat ⟨(x,y,z),st,why,tr,nx,L⟩⟩:=by unfold setS;rw[if_pos h0]
             rw[h0,hS]
             exact tset_ok2 b n S.A S.E S.R vn x y z st why tr nx L hz0 hz1 hm _ _ hg hq hr ho3 ht om
       · exact bad 2 (by unfold setE;rw[if_neg om,if_neg om,if_pos (.inr ht)]) om (tset_tag b n S.A S.E S.R vn x y z st why tr nx L hz0 hz1 hm _ _ hg hq hr ho3 ht)
     · exact bad 2 (by unfold setE;rw[if_neg om,if_neg om,if_pos (.inl ho)]) om (tset_out b n S.A S.E S.R vn x y z st why tr nx L hz0 hz1 hm _ _ hg hq hr (fun h=>ho (Prod.ext h.1 (Prod.ext h.2.1 h.2.2))))
   · have h1:setE S vn ⟨(x,y,z),st,why,tr,nx,L⟩=resE x y z st why tr nx L:=by unfold setE;rw[if_neg om,if_pos om,hres]
     exact bad _ h1 hr (tset_chk b n S.A S.E S.R vn x y z st why tr nx L hz0 hz1 hm _ _ hg hq hr)
 · have h1:nE S vn=3:=if_neg hv
   exact bad 3 (by unfold setE;rw[if_pos om]) om (tset_no b n S.A S.E S.R vn x y z st why tr nx L om)
theorem tnums_w(b n:Nat)(S:Ts)(vn:Int):HT prog 51 [Value.pointer (some ⟨b,0,none⟩),Value.int IntKind.i64 vn] [TW b n S] (fun v K=> ∃(p:Option Addr) (c:Nat),v=Value.slice p ((nums S.R vn).length) c∧K= [TW b n S,Sl 3 1 p ((nums S.R vn).length) c (fl eI (nums S.R vn))]):=
 HT.wi fun W=>(tnums_ht b n S.A S.E S.R vn).post fun v K hP=>by
  obtain⟨p,c,h1,h2⟩:=hP
  exact⟨_,⟨p,c,h1,rfl⟩,fun g w F hs=>by rw[h2] at hs;exact wi_in W hs⟩
theorem tcopy_w(b n:Nat)(S:Ts):HT prog 103 [Value.pointer (some ⟨b,0,none⟩)] [TW b n S] (fun v K=> ∃b2:Nat,v=Value.pointer (some ⟨b2,0,none⟩)∧K= [TW b n S,TW b2 n S]):=
 HT.wi fun W=>(tcopy_ht b n S.A S.E S.R).post fun v K hP=>by
  obtain⟨b2,h1,h2⟩:=hP
  exact⟨_,⟨b2,h1,rfl⟩,fun g w F hs=>by rw[h2] at hs;exact wi_in W (sat_sw (wi_in W (sat_sw hs)))⟩
end Go.Proofs.YtehlamblpekmkaaGreatDoor
