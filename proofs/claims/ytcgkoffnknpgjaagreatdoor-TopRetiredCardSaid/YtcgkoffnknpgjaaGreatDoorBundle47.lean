/- Walks, printed by my generator P:../bat/q2.py. -/
import Derived.Test.YtcgkoffnknpgjaaGreatDoorBundle45
import Derived.Test.YtcgkoffnknpgjaaGreatDoorHq
import Derived.Test.YtcgkoffnknpgjaaGreatDoorSri
import Derived.Test.YtcgkoffnknpgjaaGreatDoorBundle42
import Derived.Test.YtcgkoffnknpgjaaGreatDoorBundle43
namespace Go.Proofs.YtcgkoffnknpgjaaGreatDoor
set_option linter.unusedVariables false
set_option linter.unusedSimpArgs false
open Tryz
set_option maxHeartbeats 4000000
def sortRenI:Go.Shelf.Ren:=⟨fun |6=>414|14=>450|15=>124|20=>470|21=>471|22=>472|23=>473|24=>474|25=>475|26=>476|27=>477|28=>192|29=>193|46=>493|47=>255|48=>256|49=>494|50=>495|57=>502|n=>n,fun |22=>134|24=>3|25=>129|3=>3|39=>231|0=>0|53=>24|55=>333|4=>4|46=>325|45=>324|50=>329|5=>5|9=>9|66=>397|70=>189|76=>459|77=>424|n=>n,fun n=>n⟩
theorem sortLayI:SlLaysF.n6 prog sortRenI where
 mixed:=by kernel_rfl
 f6:=⟨ "slices.SortFunc[[]int,int]",by decide,func414.trans (congrArg some kr)⟩
 f14:=⟨ "slices.pdqsortCmpFunc[int]",by decide,func450.trans (congrArg some kr)⟩
 f15:=func124.trans (congrArg some kr)
 f20:=⟨ "slices.insertionSortCmpFunc[int]",by decide,func470.trans (congrArg some kr)⟩
 f21:=⟨ "slices.heapSortCmpFunc[int]",by decide,func471.trans (congrArg some kr)⟩
 f22:=⟨ "slices.breakPatternsCmpFunc[int]",by decide,func472.trans (congrArg some kr)⟩
 f23:=⟨ "slices.choosePivotCmpFunc[int]",by decide,func473.trans (congrArg some kr)⟩
 f24:=⟨ "slices.reverseRangeCmpFunc[int]",by decide,func474.trans (congrArg some kr)⟩
 f25:=⟨ "slices.partialInsertionSortCmpFunc[int]",by decide,func475.trans (congrArg some kr)⟩
 f26:=⟨ "slices.partitionEqualCmpFunc[int]",by decide,func476.trans (congrArg some kr)⟩
 f27:=⟨ "slices.partitionCmpFunc[int]",by decide,func477.trans (congrArg some kr)⟩
 f28:=func192.trans (congrArg some kr)
 f29:=func193.trans (congrArg some kr)
 f46:=⟨ "slices.siftDownCmpFunc[int]",by decide,func493.trans (congrArg some kr)⟩
 f47:=func255.trans (congrArg some kr)
 f48:=func256.trans (congrArg some kr)
 f49:=⟨ "slices.medianAdjacentCmpFunc[int]",by decide,func494.trans (congrArg some kr)⟩
 f50:=⟨ "slices.medianCmpFunc[int]",by decide,func495.trans (congrArg some kr)⟩
 f57:=⟨ "slices.order2CmpFunc[int]",by decide,func502.trans (congrArg some kr)⟩
 t0:=underlying0
 a0:=isAgg0
 z0:=sizeOf0
 v0:=zeroValue0
 t3:=underlying3
 a3:=isAgg3
 z3:=sizeOf3
 v3:=zeroValue3
 t4:=underlying4
 a4:=isAgg4
 z4:=sizeOf4
 v4:=zeroValue4
 t5:=underlying5
 a5:=isAgg5
 z5:=sizeOf5
 v5:=zeroValue5
 t9:=underlying9
 a9:=isAgg9
 z9:=sizeOf9
 v9:=zeroValue9
 t22:=underlying134
 a22:=isAgg134
 z22:=sizeOf134
 v22:=zeroValue134
 t25:=underlying129
 a25:=isAgg129
 z25:=sizeOf129
 v25:=zeroValue129
 t39:=underlying231
 a39:=isAgg231
 z39:=sizeOf231
 v39:=zeroValue231
 t45:=underlying324
 a45:=isAgg324
 z45:=sizeOf324
 v45:=zeroValue324
 t46:=underlying325
 a46:=isAgg325
 z46:=sizeOf325
 v46:=zeroValue325
 t50:=underlying329
 a50:=isAgg329
 z50:=sizeOf329
 v50:=zeroValue329
 t53:=underlying24
 a53:=isAgg24
 z53:=sizeOf24
 v53:=zeroValue24
 t55:=underlying333
 a55:=isAgg333
 z55:=sizeOf333
 v55:=zeroValue333
 t66:=underlying397
 a66:=isAgg397
 z66:=sizeOf397
 v66:=zeroValue397
 t70:=underlying189
 a70:=isAgg189
 z70:=sizeOf189
 v70:=zeroValue189
 t76:=underlying459
 a76:=isAgg459
 z76:=sizeOf459
 v76:=zeroValue459
 t77:=underlying424
 a77:=isAgg424
 z77:=sizeOf424
 v77:=zeroValue424
 a24:=isAgg3
 z24:=sizeOf3
theorem len64_z:HQ 193 [.int .u64 0] [] (iV 0) []:=by
 refine hiS func193 ntmps193 fun g w0 R h0=>go [.v 10 2 (oYr 0),.s 10 3]<|lwP (yV 0) (law_idxStr (x:=(Operand.const (.string (St [0,1,2,2,3,3,3,3,4,4,4,4,4,4,4,4,5,5,5,5,5,5,5,5,5,5,5,5,5,5,5,5,6,6,6,6,6,6,6,6,6,6,6,6,6,6,6,6,6,6,6,6,6,6,6,6,6,6,6,6,6,6,6,6,7,7,7,7,7,7,7,7,7,7,7,7,7,7,7,7,7,7,7,7,7,7,7,7,7,7,7,7,7,7,7,7,7,7,7,7,7,7,7,7,7,7,7,7,7,7,7,7,7,7,7,7,7,7,7,7,7,7,7,7,7,7,7,7,8,8,8,8,8,8,8,8,8,8,8,8,8,8,8,8,8,8,8,8,8,8,8,8,8,8,8,8,8,8,8,8,8,8,8,8,8,8,8,8,8,8,8,8,8,8,8,8,8,8,8,8,8,8,8,8,8,8,8,8,8,8,8,8,8,8,8,8,8,8,8,8,8,8,8,8,8,8,8,8,8,8,8,8,8,8,8,8,8,8,8,8,8,8,8,8,8,8,8,8,8,8,8,8,8,8,8,8,8,8,8,8,8,8,8,8,8,8,8,8,8,8,8,8,8,8,8,8])))) (i:=Ot 21) (k:= .u8) (s:= [0,1,2,2,3,3,3,3,4,4,4,4,4,4,4,4,5,5,5,5,5,5,5,5,5,5,5,5,5,5,5,5,6,6,6,6,6,6,6,6,6,6,6,6,6,6,6,6,6,6,6,6,6,6,6,6,6,6,6,6,6,6,6,6,7,7,7,7,7,7,7,7,7,7,7,7,7,7,7,7,7,7,7,7,7,7,7,7,7,7,7,7,7,7,7,7,7,7,7,7,7,7,7,7,7,7,7,7,7,7,7,7,7,7,7,7,7,7,7,7,7,7,7,7,7,7,7,7,8,8,8,8,8,8,8,8,8,8,8,8,8,8,8,8,8,8,8,8,8,8,8,8,8,8,8,8,8,8,8,8,8,8,8,8,8,8,8,8,8,8,8,8,8,8,8,8,8,8,8,8,8,8,8,8,8,8,8,8,8,8,8,8,8,8,8,8,8,8,8,8,8,8,8,8,8,8,8,8,8,8,8,8,8,8,8,8,8,8,8,8,8,8,8,8,8,8,8,8,8,8,8,8,8,8,8,8,8,8,8,8,8,8,8,8,8,8,8,8,8,8,8,8,8,8,8,8]) (z:=0) (b:=0) kr underlying9 kr kr 0 om rfl _)<|go [.v 10 4 (oIr 0)] ?_
 exact enR _ [] h0
theorem len_z:HQ 124 [.int .u64 0] [] (iV 0) []:=by
 refine hiS func124 ntmps124 fun g w0 R h0=>g0<|cl0 call193 len64_z h0 fun _ h11=>g0 ?_
 exact enR _ [] h11
theorem ins_z(p:Option Addr)(c r:Nat):HQ 470 [.slice p 0 c,iV 0,iV 0,.func (Fn.func 415) #[] #[pV r]] [] (.tuple #[]) []:=by
 refine hiS func470 ntmps470 fun g w0 R h0=>g0<|unS 1<|g0<|up<|g0 ?_
 exact enR _ [] h0
theorem pdq_z(p:Option Addr)(c r:Nat):HQ 450 [.slice p 0 c,iV 0,iV 0,iV 0,.func (Fn.func 415) #[] #[pV r]] [] (.tuple #[]) []:=by
 refine hiS func450 ntmps450 fun g w0 R h0=>g0<|unS 1<|g0<|cl0 call470 (ins_z p c r) h0 fun _ h11=>g0<|up<|g0 ?_
 exact enR _ [] h11
theorem sort_z(p:Option Addr)(c r:Nat):HQ 414 [.slice p 0 c,.func (Fn.func 415) #[] #[pV r]] [] (.tuple #[]) []:=by
 refine hiS func414 ntmps414 fun g w0 R h0=>go [.v 1 3 (oLr 0)]<|cl0 call124 len_z h0 fun _ h11=>g0<|cl0 call450 (pdq_z p c r) h11 fun _ h13=>g0 ?_
 exact enR _ [] h13
theorem isort_ht(p:Option Addr)(m c c1 c3 b n:Nat)(X:List Int)(S:Ts)(hm:m≤1000000):HT prog 414 [.slice p m c,.func (.func 415) #[] #[pV c3]] [Sl 3 1 p m c (fl eI X),Cl c3 [Value.func (Fn.func 413) #[] #[pV c1]] 522,Cl c1 [pV b] 80,TW b n S]
  (fun v K=> ∃M:List Int,(M.Perm X∧M.Pairwise fun a b=>ltOf (cfB S) b a=false)∧v= .tuple #[]∧K= [Sl 3 1 p m c (fl eI M),Cl c3 [Value.func (Fn.func 413) #[] #[pV c1]] 522,Cl c1 [pV b] 80,TW b n S]):=by
 intro g w F hs
 rcases Nat.eq_zero_or_pos m with h0|h0
 · subst h0
   have hl:X= []:=List.eq_nil_of_length_eq_zero (fl_n eI_ok dc hs)
   subst hl
   refine(sort_z p c c3 g w _ hs).mono ?_
   rintro e w' ⟨v,K,rfl,⟨rfl,rfl⟩,h2⟩
   exact⟨_,_,rfl,⟨[],⟨List.Perm.refl _,List.Pairwise.nil⟩,rfl,rfl⟩,h2⟩
 · have hs1:sat g w (TW b n S::(F++ [Sl 3 1 p m c (fl eI X),Cl c3 [Value.func (Fn.func 413) #[] #[pV c1]] 522,Cl c1 [pV b] 80])):=sat_rot (A:= [Sl 3 1 p m c (fl eI X),Cl c3 [Value.func (Fn.func 413) #[] #[pV c1]] 522,Cl c1 [pV b] 80]) (B:=TW b n S::F) hs
   obtain⟨hW,hs2⟩:=wi_out hs1
   obtain⟨ts,tm,tp,tc,E0,hM,hs3⟩:=tab_open hs2
   have hs4:sat g w (Sl 3 1 p m c (fl eI X)::Cl c3 [Value.func (Fn.func 413) #[] #[pV c1]] 522::Cl c1 [pV b] 80::Cl b [pV ts,.map (some tm),.slice tp S.R.length tc] 177::Tb ts n S.A::Gp kI vE tm E0::Sl 226 8 tp S.R.length tc (fl eRs S.R)::F):=
    sat_rot (A:=Cl b [pV ts,.map (some tm),.slice tp S.R.length tc] 177::Tb ts n S.A::Gp kI vE tm E0::Sl 226 8 tp S.R.length tc (fl eRs S.R)::F) (B:= [Sl 3 1 p m c (fl eI X),Cl c3 [Value.func (Fn.func 413) #[] #[pV c1]] 522,Cl c1 [pV b] 80]) hs3
   obtain⟨bs,cur,hp,e2,e3,e4⟩:=sl_open hs4 h0
   refine(sort_rowI sortLayI (cfB S) (swoB S) 415 [pV c3] call415 hs4 h0 om ?_).mono ?_
   · intro bb W hpb hWa x y
     obtain rfl:bb=bs:=by rw[hp] at hpb;simpa using hpb.symm
     have a1:=cl_away (j:=0) e4 rfl hWa
     have a2:=cl_away (j:=1) e4 rfl hWa
     have a3:=cl_away (j:=2) e4 rfl hWa
     have a4:=rd_away (j:=5) e4 rfl hWa (gv_sl _ _ _)
     exact exact_of (oclo2_ht W b ts tm tc tp S (by simp[World.cell?,a3]) (by simp[World.cell?,a3]) (by simp[World.cell?,a3]) a4 hM.2 c1 (by simp[World.cell?,a2]) c3 (by simp[World.cell?,a1]) x y)
   · rintro e w' ⟨rfl,M,h1,h2,h3⟩
     refine⟨_,_,rfl,⟨M,⟨h1,h2⟩,rfl,rfl⟩,?_⟩
     have h4:=sat_rot (A:= [Sl 3 1 p m c (fl eI M),Cl c3 [Value.func (Fn.func 413) #[] #[pV c1]] 522,Cl c1 [pV b] 80]) (B:=Cl b [pV ts,.map (some tm),.slice tp S.R.length tc] 177::Tb ts n S.A::Gp kI vE tm E0::Sl 226 8 tp S.R.length tc (fl eRs S.R)::F) h3
     have h5:sat g w' (TW b n S::(F++ [Sl 3 1 p m c (fl eI M),Cl c3 [Value.func (Fn.func 413) #[] #[pV c1]] 522,Cl c1 [pV b] 80])):=wi_in hW (tab_close hM.1 hM.2 rfl h4)
     exact sat_rot (A:=TW b n S::F) (B:= [Sl 3 1 p m c (fl eI M),Cl c3 [Value.func (Fn.func 413) #[] #[pV c1]] 522,Cl c1 [pV b] 80]) h5
theorem closing_w(b n:Nat)(S:Ts):HT prog 373 [pV b] [TW b n S] (fun v K=> ∃(p:Option Addr) (c:Nat),v= .slice p ((srtB S).length) c∧K= [TW b n S,Sl 3 1 p ((srtB S).length) c (fl eI (srtB S))]):=by
 refine hiS func373 ntmps373 fun g w0 R h0=> ?_
 have hW_:=(wi_out h0).1;have hrl_:=hW_.rl;have hnl_:=nums_le S.R 2
 refine g0<|nP 80 [pV b] h0 (fun r10 _ h12=> ?_)
 refine g0<|nP 522 [Value.nilFunc] h12 (fun r13 _ h15=> ?_)
 refine sA [.func (Fn.func 413) #[] #[pV r10]] h15 fun _ h17=> ?_
 have h20:=h17.b.t4
 refine go [rd 2 0 1 0 1 h17]<|cP call55 (tnums_w b n S 2) h20 ?_
 rintro v K _ (⟨p18,c19,rfl,rfl⟩) h22
 have h27:=(ap2 h22).a.t5
 have hl28:=fl_n eI_ok dc h27
 have h29:=h27.c.c.b.t5
 refine g0<|cP call414 (isort_ht p18 ((nums S.R 2).length) c19 r10 r13 b n (nums S.R 2) S om) h29 ?_
 rintro v K w30 (⟨M24,⟨hM25,hM26⟩,rfl,rfl⟩) h31
 have h32:=ap4 h31
 refine g0 ?_
 have he_:M24=srtB S:=srtB_uniq hM25 hM26
 have h33:sat g _ (Sl 3 1 p18 ((srtB S).length) c19 (fl eI (srtB S))::_):=sat_imp h32 (fun _ hh_=>by rw[srtB_len,←he_];exact hh_)
 exact en (.slice p18 ((nums S.R 2).length) c19) [] ⟨_,_,rfl,⟨p18,c19,by rw[srtB_len],rfl⟩,(tk3 (sf2 (sf2 (sf4 h33.c.t5))))⟩
theorem bkchk_ok(ba cp:Int)(hb:1≤ba∧ba≤cp∧cp≤1048576):HQ 58 [iV ba,iV cp] [] (iV 0) []:=by
 refine hiS func58 ntmps58 fun g w0 R h0=>go [.v 1 1 (oF (ba<1)),.v 1 5 (oF (cp<ba)),.v 1 9 (oF (cp>1048576))] ?_
 exact enR _ [] h0
theorem bkchk_no(ba cp:Int)(h:ba<1∨cp<ba∨1048576<cp):HQ 58 [iV ba,iV cp] [] (iV 2) []:=by
 refine hiS func58 ntmps58 fun g w0 R h0=>go [.s 1 1] ?_
 by_cases c10:ba<1
 ·
  refine go [.v 1 1 (oT _ c10)] ?_
  exact enR _ [] h0
 refine go [.v 1 1 (oF _ c10),.s 1 5] ?_
 by_cases c11:cp<ba
 ·
  refine go [.v 1 5 (oT _ c11)] ?_
  exact enR _ [] h0
 refine go [.v 1 5 (oF _ c11),.v 1 9 (oT (cp>1048576))] ?_
 exact enR _ [] h0
theorem bkchk_ht(ba cp:Int):HQ 58 [iV ba,iV cp] [] (Value.int .i64 (bkE ba cp)) []:=by
 unfold bkE
 split
 · rename_i h
   exact bkchk_no ba cp h
 · rename_i h
   exact bkchk_ok ba cp om
theorem bkck_ok(tr ba cp:Int)(ht:1≤tr∧tr≤64)(hb:1≤ba∧ba≤cp∧cp≤1048576):HQ 421 [iV tr,iV ba,iV cp] [] (iV 0) []:=by
 refine hiS func421 ntmps421 fun g w0 R h0=>go [.v 1 1 (oF (tr<1)),.v 1 4 (oF (tr>64))]<|cl0 call58 (bkchk_ok ba cp om) h0 fun _ h11=>g0 ?_
 exact enR _ [] h11
theorem waits_ht(ba cp:Int):HT prog 455 [iV ba,iV cp] [] (fun v K=> ∃c1 c2:Nat,v= .func (Fn.func 482) #[] #[pV c1,pV c2]∧K= [Cl c1 [iV ba] 2,Cl c2 [iV cp] 2]):=by
 refine hiS func455 ntmps455 fun g w0 R h0=>g0<|nP 2 [iV ba] h0 (fun r10 _ h12=> ?_)
 refine nP 2 [iV cp] h12 (fun r13 _ h15=> ?_)
 refine g0 ?_
 exact en (.func (Fn.func 482) #[] #[pV r10,pV r13]) [] ⟨_,_,rfl,⟨r10,r13,rfl,rfl⟩,h15.a.t3⟩
theorem waits_it(c1 c2:Nat)(ba cp:Int)(hb:1≤ba∧ba≤cp∧cp≤1048576):IT prog 482 [pV c1,pV c2] 64 (fun i:Nat=> [iV ((i:Int)+1),iV (wtN ba cp i)]) [Cl c1 [iV ba] 2,Cl c2 [iV cp] 2]:=by
 refine itS func482 ntmps482 fun g w0 R k_ J_ E_ hY h0=> ?_
 have h10:sat g _ (J_ 0::_):=h0
 refine go [rd 0 0 1 0 1 h10] ?_
 refine lpS (fun mz_ a w=> ∃k:Nat,∃wv:Int,∃lr:Fr,mz_=64-k∧(k≤64)∧(wv=wtN ba cp k)∧(1≤wv∧wv≤cp)∧a=mk 21 (([(0,.func (Fn.yield k_) #[] #[]),(2,pV c2),(4,iV wv),(5,iV ((k:Int)+1))]:Fr)++lr)∧sat g w [J_ k,Cl c1 [iV ba] 2,Cl c2 [iV cp] 2,R]) (64-0) ⟨0,ba,_,rfl,(Nat.zero_le _),rfl,om,(lvF [.k 0 (.func (Fn.yield k_) #[] #[]),.k 2 (pV c2),.k 4 (iV ba),.o 5 (oJ .i64 1 ((0:Int)+1))]),h10⟩ ?_
 rintro m12 a13 w14 ⟨k,wv,lr11,rfl,hk,hwv_,hwb_,rfl,h15⟩
 refine ga<|go [.s 2 99999] ?_
 refine plS 6<|go [.s 2 1] ?_
 by_cases c16:(k:Int)+1≤64
 ·
  refine go [.v 2 1 (oT _ c16)] ?_
  refine yY 2 (args:= [iV ((k:Int)+1),iV wv]) (xa:=(fun i:Nat=> [Value.int .i64 ((i:Int)+1),Value.int .i64 (wtN ba cp i)]) k) (by show [Value.int .i64 ((k:Int)+1),Value.int .i64 (wtN ba cp k)]=_;rw[←hwv_]) (hY k om _ [R] h15) ?_ ?_
  ·
   intro w17 h18
   have h19:sat g _ (J_ (k+1)::_):=h18
   have hlt20:=(om:k<64)
   refine go [.v 4 1 (oIr (2*wv)),rd 4 2 2 0 1 h19,.s 4 3] ?_
   by_cases c21:cp<2*wv
   ·
    refine go [.v 4 3 (⟨iV (if cp<2*wv then cp else 2*wv),iV cp,(ov_int (if_pos om))⟩),.v 3 1 (oI (((k:Int)+1)+1) ((k:Int)+2))] ?_
    exact enN (64-(k+1)) ⟨(k+1),cp,_,rfl,om,(by unfold wtN;rw[←hwv_];omega),om,(lvF [.k 0 (.func (Fn.yield k_) #[] #[]),.k 2 (pV c2),.k 4 (iV cp),.o 5 (oJ .i64 ((k:Int)+2) ((((k+1):Nat):Int)+1))]),h19⟩
   refine go [.v 4 3 (⟨iV (if cp<2*wv then cp else 2*wv),iV (2*wv),(ov_int (if_neg om))⟩),.v 3 1 (oI (((k:Int)+1)+1) ((k:Int)+2))] ?_
   exact enN (64-(k+1)) ⟨(k+1),2*wv,_,rfl,om,(by unfold wtN;rw[←hwv_];omega),om,(lvF [.k 0 (.func (Fn.yield k_) #[] #[]),.k 2 (pV c2),.k 4 (iV (2*wv)),.o 5 (oJ .i64 ((k:Int)+2) ((((k+1):Nat):Int)+1))]),h19⟩
  intro w22 h23
  have h24:sat g w22 [E_ k,R]:=h23
  have hlt25:=(om:k<64)
  refine g0<|up<|g0 ?_
  exact en (.tuple #[]) [] ⟨⟨_,rfl⟩,.inr ⟨k,om,h24⟩⟩
 refine go [.v 2 1 (oF _ c16)] ?_
 refine yN 2<|g0<|up<|g0 ?_
 have he_:k=64:=(by omega)
 exact en (.tuple #[]) [] ⟨⟨_,rfl⟩,.inl (he_▸h15)⟩
theorem wait1_t(ct:Nat)(tr ka kb:Int)(h:ka=tr):HQ 423 [iV ka,iV kb,pV ct] [Cl ct [iV tr] 3] (.bool true) [Cl ct [iV tr] 3]:=by
 refine hiS func423 ntmps423 fun g w0 R h0=>go [rd 1 1 0 0 1 h0,.v 1 2 (qeT ka tr)] ?_
 exact enR _ [] h0
theorem wait1_f(ct:Nat)(tr ka kb:Int)(h: ¬ka=tr):HQ 423 [iV ka,iV kb,pV ct] [Cl ct [iV tr] 3] (.bool false) [Cl ct [iV tr] 3]:=by
 refine hiS func423 ntmps423 fun g w0 R h0=>go [rd 1 1 0 0 1 h0,.v 1 2 (qeF ka tr)] ?_
 exact enR _ [] h0
theorem find_ht(ct:Nat)(tr ba cp:Int)(ht:1≤tr∧tr≤64)(hb:1≤ba∧ba≤cp∧cp≤1048576):HQ 422 [iV ba,iV cp,.func (Fn.func 423) #[] #[pV ct]] [Cl ct [iV tr] 3] (.tuple #[iV tr,iV (wtB tr ba cp)]) [Cl ct [iV tr] 3]:=by
 refine hiS func422 ntmps422 fun g w0 R h0=>g0<|nP 530 [.func (Fn.func 423) #[] #[pV ct]] h0 (fun r10 _ h12=> ?_)
 refine nP 3 [iV 0] h12 (fun r13 _ h15=> ?_)
 refine nP 2 [iV 0] h15 (fun r16 _ h18=> ?_)
 refine g0<|cP call455 (waits_ht ba cp) h18 ?_
 rintro v K _ (⟨b19,b20,rfl,rfl⟩) h22
 have h24:=(ap2 h22).e.c.d.e.t7
 refine g0 ?_
 refine rfS (N:=64) (fun i K=>((i:Int)<tr)∧K= [Cl r10 [.func (Fn.func 423) #[] #[pV ct]] 530,Cl r13 [iV 0] 3,Cl r16 [iV 0] 2,Cl ct [iV tr] 3]) (fun c i K=>(c=Code.ret∧((i:Int)+1=tr)∧K= [Cl r10 [.func (Fn.func 423) #[] #[pV ct]] 530,Cl r13 [iV ((i:Int)+1)] 3,Cl r16 [iV (wtN ba cp i)] 2,Cl ct [iV tr] 3])) call482 (waits_it b19 b20 ba cp hb) ⟨om,rfl⟩ h24 ?_ ?_ ?_
 ·
  rintro i hi27 lp_ w25 K_ G ⟨hlt_,rfl⟩ h26
  have h28:sat g _ (Cl r10 [.func (Fn.func 423) #[] #[pV ct]] 530::_):=h26
  refine go [rd 4 0 0 0 1 h28] ?_
  by_cases c29:(i:Int)+1=tr
  ·
   refine cl1 call423 (wait1_t ct tr ((i:Int)+1) (wtN ba cp i) om) h28.c.t7 fun _ h32=> ?_
   have h33:=h32.b.t7
   refine g0<|sA [iV ((i:Int)+1)] h33 fun _ h35=>sA [iV (wtN ba cp i)] h35.c.t7 fun _ h38=>g0 ?_
   exact rbR ⟨rfl,om,rfl⟩ (tk5 h38.f.c.b.c.d.t7)
  refine cl1 call423 (wait1_f ct tr ((i:Int)+1) (wtN ba cp i) om) h28.c.t7 fun _ h43=>g0 ?_
  exact rbN ⟨om,rfl⟩ h43.c.c.c.t7
 ·
  rintro D45 w46 K_ ⟨hlt_,rfl⟩ h47
  have h48:sat g _ (pt D45 (Obj.deferred (some []))::_):=h47
  have h49:=h48.b.t8
  refine g0<|sA [iV 0] h49 fun _ h51=>sA [iV 0] h51.c.t8 fun _ h54=>g0 ?_
  refine enD (.tuple #[iV 0,iV 0]) h54.b.t8 (fun w57 h56=> [rd 0 0 2 0 1 h56,rd 0 0 1 0 1 h56]) (fun w57 h56=> ?_) [iV 0,iV 0] [(⟨r13,0,none⟩,iV 0),(⟨r16,0,none⟩,iV 0)]
  exact⟨_,_,rfl,⟨by exfalso;omega,rfl⟩,(tk2 (sf1 (sf7 h56.d.t8)))⟩
 rintro D60 w61 ex_ i K_ hi63 (⟨rfl,hex_,rfl⟩) h62
 have h64:sat g _ (pt D60 (Obj.deferred (some []))::_):=h62
 refine g0 ?_
 refine enD (.tuple #[iV ((i:Int)+1),iV (wtN ba cp i)]) h64 (fun w66 h65=> [rd 0 0 2 0 1 h65,rd 0 0 3 0 1 h65]) (fun w66 h65=> ?_) [iV ((i:Int)+1),iV (wtN ba cp i)] [(⟨r13,0,none⟩,iV ((i:Int)+1)),(⟨r16,0,none⟩,iV (wtN ba cp i))]
 exact⟨_,_,rfl,⟨by unfold wtB;rw[show (tr-1).toNat=i from by omega,show ((i:Int)+1)=tr from by omega],rfl⟩,(tk2 (sf1 (sf5 h65.d.t6)))⟩
theorem wait_ht(tr ba cp:Int)(ht:1≤tr∧tr≤64)(hb:1≤ba∧ba≤cp∧cp≤1048576):HQ 378 [iV tr,iV ba,iV cp] [] (.tuple #[iV (wtB tr ba cp),iV 0]) []:=by
 refine hiS func378 ntmps378 fun g w0 R h0=>g0<|nP 3 [iV tr] h0 (fun r10 _ h12=> ?_)
 refine go [rd 1 0 0 0 1 h12]<|cl0 call421 (bkck_ok tr ba cp om om) h12 fun _ h14=>g0<|cl1 call422 (find_ht r10 tr ba cp om om) h14 fun _ h16=>g0 ?_
 exact enR _ [] h16.a.t1
theorem rckd_ok(r:Rs)(hres:resR r=0)(hz0:0≤r.out.2.2)(hz1:r.out.2.2≤4294967295)(st:Int)(h:r.st=st):HQ 386 [.agg #[iV r.out.1,iV r.out.2.1,uV r.out.2.2,iV r.st,iV r.why,iV r.tr,iV r.nx,.string (St r.tag)],.bool true,iV st] [] (iV 0) []:=by
 refine hiS func386 ntmps386 fun g w0 R h0=>g0<|nP 226 [iV r.out.1,iV r.out.2.1,uV r.out.2.2,iV r.st,iV r.why,iV r.tr,iV r.nx,.string (St r.tag)] h0 (fun _ _ h12=> ?_)
 refine go [rd 1 0 0 0 8 h12]<|cl0 call352 (by have h_:=rchk_ht r.out.1 r.out.2.1 r.out.2.2 r.st r.why r.tr r.nx r.tag om om (by have:=res_len hres;omega);rw[show resE r.out.1 r.out.2.1 r.out.2.2 r.st r.why r.tr r.nx r.tag=0 from hres] at h_;exact h_) h12 fun _ h14=> ?_
 refine go [rd 6 1 0 3 1 h14,.v 6 3 (qnF r.st st)] ?_
 exact enR _ [] h14.a.t1
theorem rdue_y(r:Rs)(hres:resR r=0)(hz0:0≤r.out.2.2)(hz1:r.out.2.2≤4294967295)(t:Int)(ht:0≤t∧t≤1099511627776)(hst:r.st=2)(h:r.nx≤t):HQ 374 [.agg #[iV r.out.1,iV r.out.2.1,uV r.out.2.2,iV r.st,iV r.why,iV r.tr,iV r.nx,.string (St r.tag)],iV t] [] (.tuple #[.bool true,iV 0]) []:=by
 refine hiS func374 ntmps374 fun g w0 R h0=>g0<|nP 226 [iV r.out.1,iV r.out.2.1,uV r.out.2.2,iV r.st,iV r.why,iV r.tr,iV r.nx,.string (St r.tag)] h0 (fun _ _ h12=> ?_)
 refine g0<|dw (fls [0,1,3,4] (Tr.an 2 (Tr.an 5 (Tr.fl 6 Tr.nil)))) h12 fun _ h14=>go [rd 1 0 0 0 8 h14,rd 1 4 0 3 1 h14]<|cw0 call388 (time_t t om) h14 fun _ h16=>⟨kd [rd 0 4 0 3 1 h16,rd 0 0 0 0 8 h16],?_⟩
 refine cw0 call386 (rckd_ok r hres om om r.st om) h16 fun _ h18=>⟨kd [],?_⟩
 refine go [rd 4 1 0 3 1 h18,.v 4 2 (qeT r.st 2),rd 4 5 0 6 1 h18,.v 4 7 (oT (r.nx≤t))] ?_
 exact enR _ [] h18.a.t1
theorem rdue_n(r:Rs)(hres:resR r=0)(hz0:0≤r.out.2.2)(hz1:r.out.2.2≤4294967295)(t:Int)(ht:0≤t∧t≤1099511627776)(hst:r.st=2)(h:t<r.nx):HQ 374 [.agg #[iV r.out.1,iV r.out.2.1,uV r.out.2.2,iV r.st,iV r.why,iV r.tr,iV r.nx,.string (St r.tag)],iV t] [] (.tuple #[.bool false,iV 0]) []:=by
 refine hiS func374 ntmps374 fun g w0 R h0=>g0<|nP 226 [iV r.out.1,iV r.out.2.1,uV r.out.2.2,iV r.st,iV r.why,iV r.tr,iV r.nx,.string (St r.tag)] h0 (fun _ _ h12=> ?_)
 refine g0<|dw (fls [0,1,3,4] (Tr.an 2 (Tr.an 5 (Tr.fl 6 Tr.nil)))) h12 fun _ h14=>go [rd 1 0 0 0 8 h14,rd 1 4 0 3 1 h14]<|cw0 call388 (time_t t om) h14 fun _ h16=>⟨kd [rd 0 4 0 3 1 h16,rd 0 0 0 0 8 h16],?_⟩
 refine cw0 call386 (rckd_ok r hres om om r.st om) h16 fun _ h18=>⟨kd [],?_⟩
 refine go [rd 4 1 0 3 1 h18,.v 4 2 (qeT r.st 2),rd 4 5 0 6 1 h18,.v 4 7 (oF (r.nx≤t))] ?_
 exact enR _ [] h18.a.t1
theorem rtri_ht(r:Rs)(hres:resR r=0)(hz0:0≤r.out.2.2)(hz1:r.out.2.2≤4294967295)(x t wt:Int)(hx:1≤x∧x≤3)(ht:0≤t∧t≤1099511627776)(hw:1≤wt∧wt≤1048576)(hst:r.st=2):HQ 379 [.agg #[iV r.out.1,iV r.out.2.1,uV r.out.2.2,iV r.st,iV r.why,iV r.tr,iV r.nx,.string (St r.tag)],iV x,iV t,iV wt] [] (.tuple #[.agg #[iV ((triX r x t wt).out.1),iV ((triX r x t wt).out.2.1),uV ((triX r x t wt).out.2.2),iV ((triX r x t wt).st),iV ((triX r x t wt).why),iV ((triX r x t wt).tr),iV ((triX r x t wt).nx),.string (St ((triX r x t wt).tag))],iV (triE r x t wt)]) []:=by
 have hp_:=(res_ok hres).1;unfold posP at hp_;have c:0≤r.tr∧r.tr≤10000:=by omega
 refine hiS func379 ntmps379 fun g w0 R h0=>g0<|nP 226 [iV r.out.1,iV r.out.2.1,uV r.out.2.2,iV r.st,iV r.why,iV r.tr,iV r.nx,.string (St r.tag)] h0 (fun _ _ h12=> ?_)
 refine nP 226 [iV 0,iV 0,uV 0,iV 0,iV 0,iV 0,iV 0,.string (St [])] h12 (fun _ _ h15=> ?_)
 refine g0<|dw (fls [0,1] (Tr.an 2 (fls [3,4] (Tr.an 5 (fls [6,7,8] (Tr.an 9 (Tr.fl 10 (Tr.an 11 (Tr.fl 12 Tr.nil))))))))) h15 fun _ h17=>go [rd 1 0 1 0 8 h17]<|cw0 call387 (in_t x 1 3 om) h17 fun _ h19=>⟨kd [rd 0 0 1 0 8 h19],?_⟩
 refine g0<|cw0 call388 (time_t t om) h19 fun _ h21=>⟨kd [rd 0 0 1 0 8 h21],?_⟩
 refine g0<|cw0 call387 (in_t wt 1 1048576 om) h21 fun _ h23=>⟨kd [rd 0 0 1 0 8 h23],?_⟩
 refine g0<|cw0 call386 (rckd_ok r hres om om 2 om) h23 fun _ h25=>⟨kd [],?_⟩
 refine go [.s 8 0] ?_
 by_cases c26:x=1
 ·
  have h27:=h25.a.t3
  refine go [.v 8 0 (qeT _ _ c26)]<|sP [(3,iV 3)] [iV r.out.1,iV r.out.2.1,uV r.out.2.2,iV 3,iV r.why,iV r.tr,iV r.nx,.string (St r.tag)] h27 fun _ h29=>g0<|sP [(6,iV 0)] [iV r.out.1,iV r.out.2.1,uV r.out.2.2,iV 3,iV r.why,iV r.tr,iV 0,.string (St r.tag)] h29 fun _ h31=> ?_
  have h32:=h31.a.t3
  refine go [rd 12 0 0 0 8 h31]<|sA [iV r.out.1,iV r.out.2.1,uV r.out.2.2,iV 3,iV r.why,iV r.tr,iV 0,.string (St r.tag)] h32 fun _ h34=>g0 ?_
  exact en (.tuple #[.agg #[iV r.out.1,iV r.out.2.1,uV r.out.2.2,iV 3,iV r.why,iV r.tr,iV 0,.string (St r.tag)],iV 0]) [rd 0 0 0 0 8 h34] ⟨_,_,rfl,⟨by have he_:triE r x t wt=0:=(if_neg (fun h_=>by omega));unfold triX;rw[if_pos he_,he_];unfold triR;rw[if_pos om],rfl⟩,h34.b.t1⟩
 refine go [.v 8 0 (qeF _ _ c26),.s 10 0] ?_
 by_cases c36:x=3
 ·
  have h37:=h25.a.t3
  refine go [.v 10 0 (qeT _ _ c36)]<|sP [(3,iV 4)] [iV r.out.1,iV r.out.2.1,uV r.out.2.2,iV 4,iV r.why,iV r.tr,iV r.nx,.string (St r.tag)] h37 fun _ h39=>g0<|sP [(6,iV 0)] [iV r.out.1,iV r.out.2.1,uV r.out.2.2,iV 4,iV r.why,iV r.tr,iV 0,.string (St r.tag)] h39 fun _ h41=> ?_
  have h42:=h41.a.t3
  refine go [rd 12 0 0 0 8 h41]<|sA [iV r.out.1,iV r.out.2.1,uV r.out.2.2,iV 4,iV r.why,iV r.tr,iV 0,.string (St r.tag)] h42 fun _ h44=>g0 ?_
  exact en (.tuple #[.agg #[iV r.out.1,iV r.out.2.1,uV r.out.2.2,iV 4,iV r.why,iV r.tr,iV 0,.string (St r.tag)],iV 0]) [rd 0 0 0 0 8 h44] ⟨_,_,rfl,⟨by have he_:triE r x t wt=0:=(if_neg (fun h_=>by omega));unfold triX;rw[if_pos he_,he_];unfold triR;rw[if_neg om,if_pos om],rfl⟩,h44.b.t1⟩
 refine go [.v 10 0 (qeF _ _ c36),.v 5 2 (oI (1099511627776-wt) (-wt+1099511627776)),.s 5 3] ?_
 by_cases c46:t> -wt+1099511627776
 ·
  refine go [.v 5 3 (oT _ c46)]<|sA [iV 0,iV 0,uV 0,iV 0,iV 0,iV 0,iV 0,.string (St [])] h25 fun _ h48=>g0 ?_
  exact en (.tuple #[.agg #[iV 0,iV 0,uV 0,iV 0,iV 0,iV 0,iV 0,.string (St [])],iV 17]) [rd 0 0 0 0 8 h48] ⟨_,_,rfl,⟨by have he_:triE r x t wt=17:=(if_pos ⟨by omega,by omega⟩);unfold triX;rw[if_neg om,he_];rfl,rfl⟩,h48.b.t1⟩
 refine go [.v 5 3 (oF _ c46),rd 5 6 1 5 1 h25,.s 5 7] ?_
 by_cases c50:r.tr≥10000
 ·
  refine go [.v 5 7 (oT _ c50)]<|sA [iV 0,iV 0,uV 0,iV 0,iV 0,iV 0,iV 0,.string (St [])] h25 fun _ h52=>g0 ?_
  exact en (.tuple #[.agg #[iV 0,iV 0,uV 0,iV 0,iV 0,iV 0,iV 0,.string (St [])],iV 17]) [rd 0 0 0 0 8 h52] ⟨_,_,rfl,⟨by have he_:triE r x t wt=17:=(if_pos ⟨by omega,by omega⟩);unfold triX;rw[if_neg om,he_];rfl,rfl⟩,h52.b.t1⟩
 have h54:=h25.a.t3
 refine go [.v 5 7 (oF _ c50),rd 7 1 1 5 1 h25,.v 7 2 (oIr (r.tr+1)),.v 7 5 (oIr (t+wt))]<|sP [(5,iV (r.tr+1))] [iV r.out.1,iV r.out.2.1,uV r.out.2.2,iV r.st,iV r.why,iV (r.tr+1),iV r.nx,.string (St r.tag)] h54 fun _ h56=>g0<|sP [(6,iV (t+wt))] [iV r.out.1,iV r.out.2.1,uV r.out.2.2,iV r.st,iV r.why,iV (r.tr+1),iV (t+wt),.string (St r.tag)] h56 fun _ h58=> ?_
 have h59:=h58.a.t3
 refine go [rd 12 0 0 0 8 h58]<|sA [iV r.out.1,iV r.out.2.1,uV r.out.2.2,iV r.st,iV r.why,iV (r.tr+1),iV (t+wt),.string (St r.tag)] h59 fun _ h61=>g0 ?_
 exact en (.tuple #[.agg #[iV r.out.1,iV r.out.2.1,uV r.out.2.2,iV r.st,iV r.why,iV (r.tr+1),iV (t+wt),.string (St r.tag)],iV 0]) [rd 0 0 0 0 8 h61] ⟨_,_,rfl,⟨by have he_:triE r x t wt=0:=(if_neg (fun h_=>by omega));unfold triX;rw[if_pos he_,he_];unfold triR;rw[if_neg om,if_neg om],rfl⟩,h61.b.t1⟩
theorem there_w(b n:Nat)(S:Ts):HQ 299 [pV b] [TW b n S] (.bool true) [TW b n S]:=by
 refine hiS func299 ntmps299 fun g w0 R h0=>g0<|cP call47 (tcopy_w b n S) h0 ?_
 rintro v K _ (⟨b10,rfl,rfl⟩) h12
 have h13:=ap2 h12
 refine g0 ?_
 exact enR _ [] h13.B.t2
theorem due_w(b n:Nat)(S:Ts)(t mo:Int)(h:0≤t∧t≤1099511627776∧0≤mo):HT prog 300 [pV b,iV t,iV mo] [TW b n S] (fun v K=> ∃(p:Option Addr) (c:Nat),v= .tuple #[.slice p ((dueB S t mo).length) c,iV 0]∧K= [TW b n S,Sl 3 1 p ((dueB S t mo).length) c (fl eI (dueB S t mo))]):=by
 refine hiS func300 ntmps300 fun g w0 R h0=> ?_
 have hW_:=(wi_out h0).1;have hrl_:=hW_.rl;have hsl_:(srtB S).length≤S.R.length:=by rw[srtB_len];exact nums_le S.R 2
 refine g0<|cl1 call299 (there_w b n S) h0 fun _ h11=>go [.v 3 1 (oF (t<0)),.v 3 4 (oF (t>1099511627776)),.v 3 8 (oF (mo<0))]<|cP call373 (closing_w b n S) h11 ?_
 rintro v K w14 (⟨p12,c13,rfl,rfl⟩) h15
 have h16:=ap2 h15
 refine g0 ?_
 have h17:=h16.a.t3
 have hl18:=fl_n eI_ok dc h17
 have h19:sat g _ (Sl 3 1 none 0 0 (fl eI [])::_):=sl_nil 3 1 h17
 have h20:sat g _ (Sl 3 1 none 0 0 (fl eI ((srtB S).take 0))::_):=sat_imp h19 (fun _ hh_=>by rw[show ([]:List Int)=((srtB S).take 0) from (by simp)] at hh_;exact hh_)
 refine lpS (fun mz_ a w=> ∃i:Nat,∃p2:Option Addr,∃c2:Nat,∃lr:Fr,mz_=((srtB S).length)-i∧(i≤(srtB S).length)∧(∀(j:Nat) (n_:Int),j<i→(srtB S)[j]? =some n_→nxR S n_≤t)∧((i:Int)≤mo)∧a=mk 67 (([(0,pV b),(1,iV t),(2,iV mo),(8,.slice p2 i c2),(31,.slice p12 ((srtB S).length) c13),(32,iV (((srtB S).length:Nat):Int)),(33,iV i)]:Fr)++lr)∧sat g w [Sl 3 1 p2 i c2 (fl eI ((srtB S).take i)),TW b n S,Sl 3 1 p12 ((srtB S).length) c13 (fl eI (srtB S)),R]) ((srtB S).length-0) ⟨0,none,0,_,rfl,(Nat.zero_le _),(fun j_ n_ hj_=>absurd hj_ (Nat.not_lt_zero _)),om,(lvF [.k 0 (pV b),.k 1 (iV t),.k 2 (iV mo),.k 8 (.slice none 0 0),.k 31 (.slice p12 ((srtB S).length) c13),.k 32 (iV (((srtB S).length:Nat):Int)),.o 33 (oJ .i64 0 (0:Int))]),h20.b.a.t4⟩ ?_
 rintro m23 a24 w25 ⟨i,p2,c2,lr22,rfl,hi_,hall_,him_,rfl,h26⟩
 refine ga<|go [.s 7 0] ?_
 by_cases c27:(i:Int)<(((srtB S).length:Nat):Int)
 ·
  obtain⟨b28,hp29⟩:=sl_ptr0 (j:=2) h26 rfl om
  refine go [.v 7 0 (oT _ c27),.s 8 0]<|lwP (.pointer (some ⟨b28,i,none⟩)) (liP (Ot 31) (Ot 33) p12 b28 0 (i:Int) ((srtB S).length) c13 underlying134 1 i hp29 i) ?_
  obtain⟨x30,hx31⟩: ∃x,(srtB S)[i]? =some x:=⟨_,List.getElem?_eq_getElem (by rw[hl18];omega)⟩
  have hm32:=mem_srt.1 (List.mem_of_getElem? hx31);have hm32g:=wf_get hW_ hm32.1;have hm32a:=hm32.2;have hm32b:=hm32g.2.1;have hm32c:=hm32g.2.2.1
  have hm32d:=hm32.1
  have h33:=h26.a.t4
  refine go [.r 8 1 b28 i [iV x30] ⟨gvc 2 h26 rfl hp29 eI_ok 0 (iV x30) hx31 i,trivial⟩]<|cl1 call210 (tget_w b n S x30) h33 fun _ h35=>g0<|nP 226 [iV 0,iV 0,uV 0,iV 0,iV 0,iV 0,iV 0,.string (St [])] h35 (fun r36 _ h38=> ?_)
  refine sA [iV ((getR S x30).out.1),iV ((getR S x30).out.2.1),uV ((getR S x30).out.2.2),iV ((getR S x30).st),iV ((getR S x30).why),iV ((getR S x30).tr),iV ((getR S x30).nx),.string (St ((getR S x30).tag))] h38 fun _ h40=>go [rd 10 0 0 0 8 h40] ?_
  by_cases c41:(getR S x30).nx≤t;rotate_left
  ·
   refine cl0 call374 (rdue_n (getR S x30) hm32g.1 om om t om om om) h40 fun w63 h64=>g0<|up<|g0 ?_
   have hd_:dueB S t mo=(srtB S).take i:=due_stop hall_ hi_ him_ (by first|exact .inr om|exact .inl (fun n_ hn_=>by rw[List.getElem?_eq_none om] at hn_;cases hn_)|exact .inl (fun n_ hn_=>by rw[hx31] at hn_;obtain rfl:=Option.some.inj hn_;unfold nxR;omega))
   have hdl_:(dueB S t mo).length=i:=by rw[hd_,List.length_take];omega
   have h66:sat g _ (Sl 3 1 p2 ((dueB S t mo).length) c2 (fl eI (dueB S t mo))::_):=sat_imp h64.b.t5 (fun _ hh_=>by rw[hdl_,hd_];exact hh_)
   exact en (.tuple #[.slice p2 i c2,iV 0]) [] ⟨_,_,rfl,⟨p2,c2,by rw[hdl_],rfl⟩,(tk3 (sf2 (sf2 (sf4 h66.b.t5))))⟩
  refine cl0 call374 (rdue_y (getR S x30) hm32g.1 om om t om om om) h40 fun w42 h43=>go [.s 11 10] ?_
  by_cases c44:(i:Int)=mo
  ·
   refine go [.v 11 10 (qeT _ _ c44)]<|up<|g0 ?_
   have hd_:dueB S t mo=(srtB S).take i:=due_stop hall_ hi_ him_ (by first|exact .inr om|exact .inl (fun n_ hn_=>by rw[List.getElem?_eq_none om] at hn_;cases hn_)|exact .inl (fun n_ hn_=>by rw[hx31] at hn_;obtain rfl:=Option.some.inj hn_;unfold nxR;omega))
   have hdl_:(dueB S t mo).length=i:=by rw[hd_,List.length_take];omega
   have h46:sat g _ (Sl 3 1 p2 ((dueB S t mo).length) c2 (fl eI (dueB S t mo))::_):=sat_imp h43.b.t5 (fun _ hh_=>by rw[hdl_,hd_];exact hh_)
   exact en (.tuple #[.slice p2 i c2,iV 0]) [] ⟨_,_,rfl,⟨p2,c2,by rw[hdl_],rfl⟩,(tk3 (sf2 (sf2 (sf4 h46.b.t5))))⟩
  refine go [.v 11 10 (qeF _ _ c44)]<|nG (fun q_=> .slice (some ⟨q_,0,none⟩) 1 1) 3 [iV x30] h43 (fun r49 _ h51=>⟨kd [],?_⟩)
  have h52:=h51.c.t6
  refine actG ?_
  refine aA 64 1 (Ot 61) (Ot 63) (iV 0) p2 i c2 1 1 (⟨r49,0,none⟩) 8 underlying134 h52 (fl eI [x30]) rfl (cell1 h52 rfl) (fl_one eI_ok _) (i+1) ?_
  intro p53 cap54 w55 h56
  have h57:sat g _ (Sl 3 1 p53 (i+1) cap54 (fl eI (((srtB S).take i)++ [x30]))::_):=sJ h56
  obtain⟨hn58,hn59⟩:=sl_le h57
  refine nxA<|go [.v 13 0 (oIr ((i:Int)+1))] ?_
  refine enL ?_
  have h60:sat g _ (Sl 3 1 p53 (i+1) cap54 (fl eI ((srtB S).take (i+1)))::_):=sat_imp h57 (fun _ hh_=>by rw[show ((((srtB S).take i)++ [x30]):List Int)=((srtB S).take (i+1)) from takeB_go hx31] at hh_;exact hh_)
  have h62:=tk4 h60.e.e.e.c.t6
  change ∃n',n'<_∧_
  refine⟨((srtB S).length-(i+1)),by omega,(i+1),p53,cap54,_,rfl,om,(fun j_ n_ hj_ hn_=>(Nat.lt_succ_iff_lt_or_eq.1 hj_).elim (fun h_=>hall_ j_ n_ h_ hn_) (fun h_=>by rw[h_,hx31] at hn_;obtain rfl:=Option.some.inj hn_;unfold nxR;omega)),om,(lvF [.k 0 (pV b),.k 1 (iV t),.k 2 (iV mo),.k 8 (.slice p53 (i+1) cap54),.k 31 (.slice p12 ((srtB S).length) c13),.k 32 (iV (((srtB S).length:Nat):Int)),.o 33 (oJ .i64 ((i:Int)+1) (((i+1):Nat):Int))]),h62⟩
 refine go [.v 7 0 (oF _ c27)]<|up<|g0 ?_
 have hd_:dueB S t mo=(srtB S).take i:=due_stop hall_ hi_ him_ (by first|exact .inr om|exact .inl (fun n_ hn_=>by rw[List.getElem?_eq_none om] at hn_;cases hn_))
 have hdl_:(dueB S t mo).length=i:=by rw[hd_,List.length_take];omega
 have h69:sat g _ (Sl 3 1 p2 ((dueB S t mo).length) c2 (fl eI (dueB S t mo))::_):=sat_imp h26 (fun _ hh_=>by rw[hdl_,hd_];exact hh_)
 exact en (.tuple #[.slice p2 i c2,iV 0]) [] ⟨_,_,rfl,⟨p2,c2,by rw[hdl_],rfl⟩,(tk3 (sf2 (sf2 (sf3 h69.a.t4))))⟩
theorem tw_ok{g w:World}{L:List Assn}{b n:Nat}{S:Ts}{j:Nat}(h:sat g w L)(hj:L[j]? =some (TW b n S)):Wf n S:=sat_use h hj fun _ ha _=>ha.1
def AtB(c1 c2 c3 c4 b n wb:Nat)(p:Option Addr)(cc:Nat)(l:List Int)(S:Ts)(W:Wst)(x0 x1 x2 x3 x4 x5 bt ba cp x9:Int)(i:Nat):Assn:=star [Cl c1 [pV wb] 72,Cl c2 [Value.slice p l.length cc] 134,Cl c3 [pV b] 80,Cl c4 [iV x0,iV x1,iV x2,iV x3,iV x4,iV x5,iV bt,iV ba,iV cp,uV x9] 26,TW b n ((stB (⟨bt,ba,cp⟩:Cf) W.now (S,W) l i).1),Wd wb ((stB (⟨bt,ba,cp⟩:Cf) W.now (S,W) l i).2),Sl 3 1 p l.length cc (fl eI l)]
theorem att_it(c1 c2 c3 c4 b n wb:Nat)(p:Option Addr)(cc:Nat)(l:List Int)(S:Ts)(W:Wst)(x0 x1 x2 x3 x4 x5 bt ba cp x9:Int)(hb:1≤ba∧ba≤cp∧cp≤1048576)(hrun:RunOk (⟨bt,ba,cp⟩:Cf) W.now (S,W) l)(hll:l.length≤2000):ITA prog 376 [pV c1,pV c2,pV c3,pV c4] l.length (fun i:Nat=> [vAt ((atsB (⟨bt,ba,cp⟩:Cf) W.now (S,W) l).getD i at0)]) (AtB c1 c2 c3 c4 b n wb p cc l S W x0 x1 x2 x3 x4 x5 bt ba cp x9):=by
 refine itSA func376 ntmps376 fun g w0 R k_ J_ E_ hY h0=> ?_
 have h10:sat g w0 [Cl c1 [pV wb] 72,Cl c2 [.slice p l.length cc] 134,Cl c3 [pV b] 80,Cl c4 [iV x0,iV x1,iV x2,iV x3,iV x4,iV x5,iV bt,iV ba,iV cp,uV x9] 26,TW b n S,Wd wb W,Sl 3 1 p l.length cc (fl eI l),J_ 0,R]:=sat_unstar (sat_sw h0)
 have h11:=h10.e.t9
 refine go [rd 0 0 0 0 1 h10]<|cl1 call301 (wnow_ht wb W) h11 fun _ h13=>go [rd 1 0 2 0 1 h13] ?_
 refine lpS (fun mz_ a w=> ∃i:Nat,∃Y:Pw,∃lr:Fr,mz_=l.length-i∧((stB (⟨bt,ba,cp⟩:Cf) W.now (S,W) l i)=Y)∧(i≤l.length)∧a=mk 79 (([(0,.func (Fn.yield k_) #[] #[]),(1,pV c1),(3,pV c3),(4,pV c4),(6,iV W.now),(19,.slice p l.length cc),(20,iV (l.length:Int)),(21,iV i)]:Fr)++lr)∧sat g w [J_ i,Cl c1 [pV wb] 72,Cl c2 [.slice p l.length cc] 134,Cl c3 [pV b] 80,Cl c4 [iV x0,iV x1,iV x2,iV x3,iV x4,iV x5,iV bt,iV ba,iV cp,uV x9] 26,TW b n Y.1,Wd wb Y.2,Sl 3 1 p l.length cc (fl eI l),R]) (l.length-0) ⟨0,(S,W),_,rfl,rfl,(Nat.zero_le _),(lvF [.k 0 (.func (Fn.yield k_) #[] #[]),.k 1 (pV c1),.k 3 (pV c3),.k 4 (pV c4),.k 6 (iV W.now),.k 19 (.slice p l.length cc),.k 20 (iV (l.length:Int)),.o 21 (oJ .i64 0 (0:Int))]),h13.e.e.e.e.e.x.t9⟩ ?_
 rintro m16 a17 w18 ⟨i,Y,lr15,rfl,hY_,hi_,rfl,h19⟩
 refine ga<|go [.s 2 0] ?_
 by_cases c20:(i:Int)<(l.length:Int)
 ·
  obtain⟨b21,hp22⟩:=sl_ptr0 (j:=7) h19 rfl om
  refine go [.v 2 0 (oT _ c20),.s 3 0]<|lwP (.pointer (some ⟨b21,i,none⟩)) (liP (Ot 19) (Ot 21) p b21 0 (i:Int) l.length cc underlying134 1 i hp22 i) ?_
  have h23:=h19.x.t9
  have hl24:=fl_n eI_ok dc h23
  obtain⟨x25,hx26⟩: ∃x,l[i]? =some x:=⟨_,List.getElem?_eq_getElem (by rw[hl24];omega)⟩
  have hq27:=hrun i x25 hx26;rw[hY_] at hq27;have hq27w:=wf_get (tw_ok (j:=6) h23 rfl) hq27.1;have hq27k:=wd_ok (j:=7) h23 rfl;have hq27r:=relA_bd hq27k hq27.2.2
  obtain⟨r_,hr_⟩: ∃r,getR Y.1 x25=r:=⟨_,rfl⟩
  rw[hr_] at hq27 hq27w hq27r
  obtain⟨a_,ha_⟩: ∃a,relA Y.2 r_.out r_.why=a:=⟨_,rfl⟩
  rw[ha_] at hq27r
  have hq27a:=hq27.2.1;have hq27b:=hq27w.2.1;have hq27c:=hq27w.2.2.1;have hq27p:=(res_ok hq27w.1).1;unfold posP at hq27p
  have hq27f:0≤r_.tr∧r_.tr≤10000:=(by omega);have hq27n:Y.2.now=W.now:=(by rw[←hY_];exact stB_now);have hq27l:=hq27k.nl;have hq27h:=hq27k.nh;rw[hq27n] at hq27l hq27h
  have h28:=h23.f.t9
  refine go [.r 3 1 b21 i [iV x25] ⟨gvc 0 h23 rfl hp22 eI_ok 0 (iV x25) hx26 i,trivial⟩,rd 4 0 4 0 1 h23]<|cl1 call210 (by have h_:=tget_w b n Y.1 x25;rw[hr_,hq27.1] at h_;exact h_) h28 fun _ h30=> ?_
  refine g0<|nP 226 [iV 0,iV 0,uV 0,iV 0,iV 0,iV 0,iV 0,.string (St [])] h30 (fun r31 _ h33=> ?_)
  refine sA [iV r_.out.1,iV r_.out.2.1,uV r_.out.2.2,iV r_.st,iV r_.why,iV r_.tr,iV r_.nx,.string (St r_.tag)] h33 fun _ h35=> ?_
  have h36:=h35.h.t10
  refine go [rd 5 0 4 0 1 h35,rd 5 2 0 0 3 h35,rd 5 4 0 4 1 h35]<|cl1 call377 (by have h_:=wrel_ht wb Y.2 r_.out.1 r_.out.2.1 r_.out.2.2 r_.why om om;rw[show relA Y.2 ((r_.out.1,r_.out.2.1,r_.out.2.2):Ky) r_.why=a_ from ha_,show relE Y.2 ((r_.out.1,r_.out.2.1,r_.out.2.2):Ky) r_.why=0 from hq27.2.2] at h_;exact h_) h36 fun _ h38=> ?_
  obtain⟨q39,hq40,hq40a,hq40b,hq40c⟩: ∃q:Int,(if 64<r_.tr+1 then 64 else r_.tr+1)=q∧q≤r_.tr+1∧q≤64∧1≤q:=⟨_,rfl,by split<;>omega,by split<;>omega,by split<;>omega⟩
  have hw41:wtB q39 ba cp=wtOf (⟨bt,ba,cp⟩:Cf) r_:=by unfold wtOf;rw[show min (r_.tr+1) 64=q39 from by rw[←hq40];try (split<;>omega)]
  have hw41b:1≤wtB q39 ba cp∧wtB q39 ba cp≤1048576:=by have h_:=wtN_bd (base:=ba) (cap:=cp) ⟨hb.1,hb.2.1⟩ (q39-1).toNat;exact⟨h_.1,by have:=h_.2;unfold wtB;omega⟩
  refine go [rd 7 1 1 5 1 h38,.v 7 2 (oIr (r_.tr+1)),.v 7 3 (⟨iV (if 64<r_.tr+1 then 64 else r_.tr+1),iV q39,(ov_int hq40)⟩),rd 7 5 8 7 1 h38,rd 7 7 8 8 1 h38]<|cl0 call378 (wait_ht q39 ba cp om om) h38 fun _ h43=>go [rd 8 0 1 0 8 h43]<|cl0 call379 (rtri_ht r_ hq27w.1 om om a_ W.now (wtB q39 ba cp) om om om om) h43 fun _ h45=>g0<|nP 226 [iV 0,iV 0,uV 0,iV 0,iV 0,iV 0,iV 0,.string (St [])] h45 (fun r46 _ h48=> ?_)
  refine sA [iV ((triX r_ a_ W.now (wtB q39 ba cp)).out.1),iV ((triX r_ a_ W.now (wtB q39 ba cp)).out.2.1),uV ((triX r_ a_ W.now (wtB q39 ba cp)).out.2.2),iV ((triX r_ a_ W.now (wtB q39 ba cp)).st),iV ((triX r_ a_ W.now (wtB q39 ba cp)).why),iV ((triX r_ a_ W.now (wtB q39 ba cp)).tr),iV ((triX r_ a_ W.now (wtB q39 ba cp)).nx),.string (St ((triX r_ a_ W.now (wtB q39 ba cp)).tag))] h48 fun w49 h50=>go [.s 9 1] ?_
  by_cases c51:(triE r_ a_ W.now (wtB q39 ba cp))=0
  ·
   have ht52:=triX_ok (show triE r_ a_ W.now (wtB q39 ba cp)=0 by first|assumption|omega);have ht52a:=ht52.2.1;have ht52b:(triX r_ a_ W.now (wtB q39 ba cp)).tag.length≤96:=by rw[ht52.2.2];exact hq27w.2.2.2
   have h53:=h50.c.t11
   refine go [.v 9 1 (qeT _ _ c51),rd 10 0 8 0 1 h50,rd 10 2 0 0 8 h50]<|cl1 call316 (tset_w b n Y.1 x25 ((triX r_ a_ W.now (wtB q39 ba cp)).out.1) ((triX r_ a_ W.now (wtB q39 ba cp)).out.2.1) ((triX r_ a_ W.now (wtB q39 ba cp)).out.2.2) ((triX r_ a_ W.now (wtB q39 ba cp)).st) ((triX r_ a_ W.now (wtB q39 ba cp)).why) ((triX r_ a_ W.now (wtB q39 ba cp)).tr) ((triX r_ a_ W.now (wtB q39 ba cp)).nx) ((triX r_ a_ W.now (wtB q39 ba cp)).tag) om om om) h53 fun w54 h55=>go [.s 11 99999] ?_
   refine plS 8 ?_
   have hH57:triE (getR Y.1 x25) (relA Y.2 (getR Y.1 x25).out (getR Y.1 x25).why) W.now (wtOf (⟨bt,ba,cp⟩:Cf) (getR Y.1 x25))=0:=by rw[hr_,ha_,←hw41];first|assumption|(show (triE r_ a_ W.now (wtB q39 ba cp)=0);omega)
   have hH57x:triR (getR Y.1 x25) (relA Y.2 (getR Y.1 x25).out (getR Y.1 x25).why) W.now (wtOf (⟨bt,ba,cp⟩:Cf) (getR Y.1 x25))=triX r_ a_ W.now (wtB q39 ba cp):=by rw[hr_,ha_,←hw41];exact ht52.1.symm
   have hs56:(stB (⟨bt,ba,cp⟩:Cf) W.now (S,W) l (i+1))=((setS Y.1 x25 ⟨((triX r_ a_ W.now (wtB q39 ba cp)).out.1,(triX r_ a_ W.now (wtB q39 ba cp)).out.2.1,(triX r_ a_ W.now (wtB q39 ba cp)).out.2.2),(triX r_ a_ W.now (wtB q39 ba cp)).st,(triX r_ a_ W.now (wtB q39 ba cp)).why,(triX r_ a_ W.now (wtB q39 ba cp)).tr,(triX r_ a_ W.now (wtB q39 ba cp)).nx,(triX r_ a_ W.now (wtB q39 ba cp)).tag⟩),relS Y.2 ((r_.out.1,r_.out.2.1,r_.out.2.2):Ky) r_.why):=(stB_succ hx26).trans (by rw[hY_];exact Prod.ext ((if_pos hH57).trans (congrArg (setS Y.1 x25) hH57x)) (by show relS Y.2 (getR Y.1 x25).out (getR Y.1 x25).why=_;rw[hr_]))
   have h58:sat g w54 [TW b n ((stB (⟨bt,ba,cp⟩:Cf) W.now (S,W) l (i+1)).1),Cl r46 [iV ((triX r_ a_ W.now (wtB q39 ba cp)).out.1),iV ((triX r_ a_ W.now (wtB q39 ba cp)).out.2.1),uV ((triX r_ a_ W.now (wtB q39 ba cp)).out.2.2),iV ((triX r_ a_ W.now (wtB q39 ba cp)).st),iV ((triX r_ a_ W.now (wtB q39 ba cp)).why),iV ((triX r_ a_ W.now (wtB q39 ba cp)).tr),iV ((triX r_ a_ W.now (wtB q39 ba cp)).nx),.string (St ((triX r_ a_ W.now (wtB q39 ba cp)).tag))] 226,Wd wb (relS Y.2 ((r_.out.1,r_.out.2.1,r_.out.2.2):Ky) r_.why),Cl r31 [iV r_.out.1,iV r_.out.2.1,uV r_.out.2.2,iV r_.st,iV r_.why,iV r_.tr,iV r_.nx,.string (St r_.tag)] 226,Sl 3 1 p l.length cc (fl eI l),J_ i,Cl c1 [pV wb] 72,Cl c2 [.slice p l.length cc] 134,Cl c3 [pV b] 80,Cl c4 [iV x0,iV x1,iV x2,iV x3,iV x4,iV x5,iV bt,iV ba,iV cp,uV x9] 26,R]:=(show (setS Y.1 x25 ⟨((triX r_ a_ W.now (wtB q39 ba cp)).out.1,(triX r_ a_ W.now (wtB q39 ba cp)).out.2.1,(triX r_ a_ W.now (wtB q39 ba cp)).out.2.2),(triX r_ a_ W.now (wtB q39 ba cp)).st,(triX r_ a_ W.now (wtB q39 ba cp)).why,(triX r_ a_ W.now (wtB q39 ba cp)).tr,(triX r_ a_ W.now (wtB q39 ba cp)).nx,(triX r_ a_ W.now (wtB q39 ba cp)).tag⟩)=((stB (⟨bt,ba,cp⟩:Cf) W.now (S,W) l (i+1)).1) from (by rw[hs56]))▸h55
   have h59:=h58.b.t11
   have h60:sat g w54 [Wd wb ((stB (⟨bt,ba,cp⟩:Cf) W.now (S,W) l (i+1)).2),TW b n ((stB (⟨bt,ba,cp⟩:Cf) W.now (S,W) l (i+1)).1),Cl r46 [iV ((triX r_ a_ W.now (wtB q39 ba cp)).out.1),iV ((triX r_ a_ W.now (wtB q39 ba cp)).out.2.1),uV ((triX r_ a_ W.now (wtB q39 ba cp)).out.2.2),iV ((triX r_ a_ W.now (wtB q39 ba cp)).st),iV ((triX r_ a_ W.now (wtB q39 ba cp)).why),iV ((triX r_ a_ W.now (wtB q39 ba cp)).tr),iV ((triX r_ a_ W.now (wtB q39 ba cp)).nx),.string (St ((triX r_ a_ W.now (wtB q39 ba cp)).tag))] 226,Cl r31 [iV r_.out.1,iV r_.out.2.1,uV r_.out.2.2,iV r_.st,iV r_.why,iV r_.tr,iV r_.nx,.string (St r_.tag)] 226,Sl 3 1 p l.length cc (fl eI l),J_ i,Cl c1 [pV wb] 72,Cl c2 [.slice p l.length cc] 134,Cl c3 [pV b] 80,Cl c4 [iV x0,iV x1,iV x2,iV x3,iV x4,iV x5,iV bt,iV ba,iV cp,uV x9] 26,R]:=(show (relS Y.2 ((r_.out.1,r_.out.2.1,r_.out.2.2):Ky) r_.why)=((stB (⟨bt,ba,cp⟩:Cf) W.now (S,W) l (i+1)).2) from (by rw[hs56]))▸h59
   have h62:sat g w54 [J_ i,(AtB c1 c2 c3 c4 b n wb p cc l S W x0 x1 x2 x3 x4 x5 bt ba cp x9) (i+1),Cl r46 [iV ((triX r_ a_ W.now (wtB q39 ba cp)).out.1),iV ((triX r_ a_ W.now (wtB q39 ba cp)).out.2.1),uV ((triX r_ a_ W.now (wtB q39 ba cp)).out.2.2),iV ((triX r_ a_ W.now (wtB q39 ba cp)).st),iV ((triX r_ a_ W.now (wtB q39 ba cp)).why),iV ((triX r_ a_ W.now (wtB q39 ba cp)).tr),iV ((triX r_ a_ W.now (wtB q39 ba cp)).nx),.string (St ((triX r_ a_ W.now (wtB q39 ba cp)).tag))] 226,Cl r31 [iV r_.out.1,iV r_.out.2.1,uV r_.out.2.2,iV r_.st,iV r_.why,iV r_.tr,iV r_.nx,.string (St r_.tag)] 226,R]:=sat_sw (sat_star (K:= [Cl c1 [pV wb] 72,Cl c2 [.slice p l.length cc] 134,Cl c3 [pV b] 80,Cl c4 [iV x0,iV x1,iV x2,iV x3,iV x4,iV x5,iV bt,iV ba,iV cp,uV x9] 26,TW b n ((stB (⟨bt,ba,cp⟩:Cf) W.now (S,W) l (i+1)).1),Wd wb ((stB (⟨bt,ba,cp⟩:Cf) W.now (S,W) l (i+1)).2),Sl 3 1 p l.length cc (fl eI l)]) h60.e.e.b.c.i.i.i.i.t11)
   refine go [rd 11 3 3 0 3 h55,rd 11 5 3 4 1 h55] ?_
   refine yY 11 (args:= [Value.agg #[iV W.now,iV r_.out.1,iV r_.out.2.1,uV r_.out.2.2,iV r_.why,iV a_]]) (xa:=(fun i:Nat=> [vAt ((atsB (⟨bt,ba,cp⟩:Cf) W.now (S,W) l).getD i at0)]) i) (by show [vAt ((atsB (⟨bt,ba,cp⟩:Cf) W.now (S,W) l).getD i at0)]=_;rw[getD_some (ats_at hx26),hY_];unfold attB;rw[hr_,ha_];first|done|rfl) (hY i ((List.getElem?_eq_some_iff.1 hx26).1) _ [Cl r46 [iV ((triX r_ a_ W.now (wtB q39 ba cp)).out.1),iV ((triX r_ a_ W.now (wtB q39 ba cp)).out.2.1),uV ((triX r_ a_ W.now (wtB q39 ba cp)).out.2.2),iV ((triX r_ a_ W.now (wtB q39 ba cp)).st),iV ((triX r_ a_ W.now (wtB q39 ba cp)).why),iV ((triX r_ a_ W.now (wtB q39 ba cp)).tr),iV ((triX r_ a_ W.now (wtB q39 ba cp)).nx),Value.string (St ((triX r_ a_ W.now (wtB q39 ba cp)).tag))] 226,Cl r31 [iV r_.out.1,iV r_.out.2.1,uV r_.out.2.2,iV r_.st,iV r_.why,iV r_.tr,iV r_.nx,Value.string (St r_.tag)] 226,R] h62) ?_ ?_
   ·
    intro w63 h64
    have h65:sat g w63 [Cl c1 [pV wb] 72,Cl c2 [.slice p l.length cc] 134,Cl c3 [pV b] 80,Cl c4 [iV x0,iV x1,iV x2,iV x3,iV x4,iV x5,iV bt,iV ba,iV cp,uV x9] 26,TW b n ((stB (⟨bt,ba,cp⟩:Cf) W.now (S,W) l (i+1)).1),Wd wb ((stB (⟨bt,ba,cp⟩:Cf) W.now (S,W) l (i+1)).2),Sl 3 1 p l.length cc (fl eI l),J_ (i+1),Cl r46 [iV ((triX r_ a_ W.now (wtB q39 ba cp)).out.1),iV ((triX r_ a_ W.now (wtB q39 ba cp)).out.2.1),uV ((triX r_ a_ W.now (wtB q39 ba cp)).out.2.2),iV ((triX r_ a_ W.now (wtB q39 ba cp)).st),iV ((triX r_ a_ W.now (wtB q39 ba cp)).why),iV ((triX r_ a_ W.now (wtB q39 ba cp)).tr),iV ((triX r_ a_ W.now (wtB q39 ba cp)).nx),.string (St ((triX r_ a_ W.now (wtB q39 ba cp)).tag))] 226,Cl r31 [iV r_.out.1,iV r_.out.2.1,uV r_.out.2.2,iV r_.st,iV r_.why,iV r_.tr,iV r_.nx,.string (St r_.tag)] 226,R]:=sat_unstar (sat_sw h64)
    have hlt66:=((List.getElem?_eq_some_iff.1 hx26).1:i<l.length)
    refine go [.v 12 0 (oIr ((i:Int)+1))] ?_
    refine enL ?_
    have h68:=tk9 h65.j.x.x.x.x.x.x.x.h.t11
    change ∃n',n'<_∧_
    refine⟨(l.length-(i+1)),by omega,(i+1),(stB (⟨bt,ba,cp⟩:Cf) W.now (S,W) l (i+1)),_,rfl,rfl,om,(lvF [.k 0 (.func (Fn.yield k_) #[] #[]),.k 1 (pV c1),.k 3 (pV c3),.k 4 (pV c4),.k 6 (iV W.now),.k 19 (.slice p l.length cc),.k 20 (iV (l.length:Int)),.o 21 (oJ .i64 ((i:Int)+1) (((i+1):Nat):Int))]),h68⟩
   intro w69 h70
   have h71:sat g _ (E_ i::_):=h70
   have hlt72:=((List.getElem?_eq_some_iff.1 hx26).1:i<l.length)
   refine g0<|up<|g0 ?_
   exact en (.tuple #[]) [] ⟨⟨_,rfl⟩,.inr ⟨i,om,(tk2 h71.c.a.t4)⟩⟩
  refine go [.v 9 1 (qeF _ _ c51),.s 11 99999] ?_
  refine plS 8 ?_
  have hH76: ¬(triE (getR Y.1 x25) (relA Y.2 (getR Y.1 x25).out (getR Y.1 x25).why) W.now (wtOf (⟨bt,ba,cp⟩:Cf) (getR Y.1 x25))=0):=by rw[hr_,ha_,←hw41];first|assumption|(show ¬(triE r_ a_ W.now (wtB q39 ba cp)=0);omega)
  have hs75:(stB (⟨bt,ba,cp⟩:Cf) W.now (S,W) l (i+1))=(Y.1,relS Y.2 ((r_.out.1,r_.out.2.1,r_.out.2.2):Ky) r_.why):=(stB_succ hx26).trans (by rw[hY_];exact Prod.ext (if_neg hH76) (by show relS Y.2 (getR Y.1 x25).out (getR Y.1 x25).why=_;rw[hr_]))
  have h77:=h50.c.t11
  have h78:sat g w49 [TW b n ((stB (⟨bt,ba,cp⟩:Cf) W.now (S,W) l (i+1)).1),Cl r46 [iV ((triX r_ a_ W.now (wtB q39 ba cp)).out.1),iV ((triX r_ a_ W.now (wtB q39 ba cp)).out.2.1),uV ((triX r_ a_ W.now (wtB q39 ba cp)).out.2.2),iV ((triX r_ a_ W.now (wtB q39 ba cp)).st),iV ((triX r_ a_ W.now (wtB q39 ba cp)).why),iV ((triX r_ a_ W.now (wtB q39 ba cp)).tr),iV ((triX r_ a_ W.now (wtB q39 ba cp)).nx),.string (St ((triX r_ a_ W.now (wtB q39 ba cp)).tag))] 226,Wd wb (relS Y.2 ((r_.out.1,r_.out.2.1,r_.out.2.2):Ky) r_.why),Cl r31 [iV r_.out.1,iV r_.out.2.1,uV r_.out.2.2,iV r_.st,iV r_.why,iV r_.tr,iV r_.nx,.string (St r_.tag)] 226,Sl 3 1 p l.length cc (fl eI l),J_ i,Cl c1 [pV wb] 72,Cl c2 [.slice p l.length cc] 134,Cl c3 [pV b] 80,Cl c4 [iV x0,iV x1,iV x2,iV x3,iV x4,iV x5,iV bt,iV ba,iV cp,uV x9] 26,R]:=(show Y.1=((stB (⟨bt,ba,cp⟩:Cf) W.now (S,W) l (i+1)).1) from (by rw[hs75]))▸h77
  have h79:=h78.b.t11
  have h80:sat g w49 [Wd wb ((stB (⟨bt,ba,cp⟩:Cf) W.now (S,W) l (i+1)).2),TW b n ((stB (⟨bt,ba,cp⟩:Cf) W.now (S,W) l (i+1)).1),Cl r46 [iV ((triX r_ a_ W.now (wtB q39 ba cp)).out.1),iV ((triX r_ a_ W.now (wtB q39 ba cp)).out.2.1),uV ((triX r_ a_ W.now (wtB q39 ba cp)).out.2.2),iV ((triX r_ a_ W.now (wtB q39 ba cp)).st),iV ((triX r_ a_ W.now (wtB q39 ba cp)).why),iV ((triX r_ a_ W.now (wtB q39 ba cp)).tr),iV ((triX r_ a_ W.now (wtB q39 ba cp)).nx),.string (St ((triX r_ a_ W.now (wtB q39 ba cp)).tag))] 226,Cl r31 [iV r_.out.1,iV r_.out.2.1,uV r_.out.2.2,iV r_.st,iV r_.why,iV r_.tr,iV r_.nx,.string (St r_.tag)] 226,Sl 3 1 p l.length cc (fl eI l),J_ i,Cl c1 [pV wb] 72,Cl c2 [.slice p l.length cc] 134,Cl c3 [pV b] 80,Cl c4 [iV x0,iV x1,iV x2,iV x3,iV x4,iV x5,iV bt,iV ba,iV cp,uV x9] 26,R]:=(show (relS Y.2 ((r_.out.1,r_.out.2.1,r_.out.2.2):Ky) r_.why)=((stB (⟨bt,ba,cp⟩:Cf) W.now (S,W) l (i+1)).2) from (by rw[hs75]))▸h79
  have h82:sat g w49 [J_ i,(AtB c1 c2 c3 c4 b n wb p cc l S W x0 x1 x2 x3 x4 x5 bt ba cp x9) (i+1),Cl r46 [iV ((triX r_ a_ W.now (wtB q39 ba cp)).out.1),iV ((triX r_ a_ W.now (wtB q39 ba cp)).out.2.1),uV ((triX r_ a_ W.now (wtB q39 ba cp)).out.2.2),iV ((triX r_ a_ W.now (wtB q39 ba cp)).st),iV ((triX r_ a_ W.now (wtB q39 ba cp)).why),iV ((triX r_ a_ W.now (wtB q39 ba cp)).tr),iV ((triX r_ a_ W.now (wtB q39 ba cp)).nx),.string (St ((triX r_ a_ W.now (wtB q39 ba cp)).tag))] 226,Cl r31 [iV r_.out.1,iV r_.out.2.1,uV r_.out.2.2,iV r_.st,iV r_.why,iV r_.tr,iV r_.nx,.string (St r_.tag)] 226,R]:=sat_sw (sat_star (K:= [Cl c1 [pV wb] 72,Cl c2 [.slice p l.length cc] 134,Cl c3 [pV b] 80,Cl c4 [iV x0,iV x1,iV x2,iV x3,iV x4,iV x5,iV bt,iV ba,iV cp,uV x9] 26,TW b n ((stB (⟨bt,ba,cp⟩:Cf) W.now (S,W) l (i+1)).1),Wd wb ((stB (⟨bt,ba,cp⟩:Cf) W.now (S,W) l (i+1)).2),Sl 3 1 p l.length cc (fl eI l)]) h80.e.e.b.c.i.i.i.i.t11)
  refine go [rd 11 3 2 0 3 h50,rd 11 5 2 4 1 h50] ?_
  refine yY 11 (args:= [Value.agg #[iV W.now,iV r_.out.1,iV r_.out.2.1,uV r_.out.2.2,iV r_.why,iV a_]]) (xa:=(fun i:Nat=> [vAt ((atsB (⟨bt,ba,cp⟩:Cf) W.now (S,W) l).getD i at0)]) i) (by show [vAt ((atsB (⟨bt,ba,cp⟩:Cf) W.now (S,W) l).getD i at0)]=_;rw[getD_some (ats_at hx26),hY_];unfold attB;rw[hr_,ha_];first|done|rfl) (hY i ((List.getElem?_eq_some_iff.1 hx26).1) _ [Cl r46 [iV ((triX r_ a_ W.now (wtB q39 ba cp)).out.1),iV ((triX r_ a_ W.now (wtB q39 ba cp)).out.2.1),uV ((triX r_ a_ W.now (wtB q39 ba cp)).out.2.2),iV ((triX r_ a_ W.now (wtB q39 ba cp)).st),iV ((triX r_ a_ W.now (wtB q39 ba cp)).why),iV ((triX r_ a_ W.now (wtB q39 ba cp)).tr),iV ((triX r_ a_ W.now (wtB q39 ba cp)).nx),Value.string (St ((triX r_ a_ W.now (wtB q39 ba cp)).tag))] 226,Cl r31 [iV r_.out.1,iV r_.out.2.1,uV r_.out.2.2,iV r_.st,iV r_.why,iV r_.tr,iV r_.nx,Value.string (St r_.tag)] 226,R] h82) ?_ ?_
  ·
   intro w83 h84
   have h85:sat g w83 [Cl c1 [pV wb] 72,Cl c2 [.slice p l.length cc] 134,Cl c3 [pV b] 80,Cl c4 [iV x0,iV x1,iV x2,iV x3,iV x4,iV x5,iV bt,iV ba,iV cp,uV x9] 26,TW b n ((stB (⟨bt,ba,cp⟩:Cf) W.now (S,W) l (i+1)).1),Wd wb ((stB (⟨bt,ba,cp⟩:Cf) W.now (S,W) l (i+1)).2),Sl 3 1 p l.length cc (fl eI l),J_ (i+1),Cl r46 [iV ((triX r_ a_ W.now (wtB q39 ba cp)).out.1),iV ((triX r_ a_ W.now (wtB q39 ba cp)).out.2.1),uV ((triX r_ a_ W.now (wtB q39 ba cp)).out.2.2),iV ((triX r_ a_ W.now (wtB q39 ba cp)).st),iV ((triX r_ a_ W.now (wtB q39 ba cp)).why),iV ((triX r_ a_ W.now (wtB q39 ba cp)).tr),iV ((triX r_ a_ W.now (wtB q39 ba cp)).nx),.string (St ((triX r_ a_ W.now (wtB q39 ba cp)).tag))] 226,Cl r31 [iV r_.out.1,iV r_.out.2.1,uV r_.out.2.2,iV r_.st,iV r_.why,iV r_.tr,iV r_.nx,.string (St r_.tag)] 226,R]:=sat_unstar (sat_sw h84)
   have hlt86:=((List.getElem?_eq_some_iff.1 hx26).1:i<l.length)
   refine go [.v 12 0 (oIr ((i:Int)+1))] ?_
   refine enL ?_
   have h88:=tk9 h85.j.x.x.x.x.x.x.x.h.t11
   change ∃n',n'<_∧_
   refine⟨(l.length-(i+1)),by omega,(i+1),(stB (⟨bt,ba,cp⟩:Cf) W.now (S,W) l (i+1)),_,rfl,rfl,om,(lvF [.k 0 (.func (Fn.yield k_) #[] #[]),.k 1 (pV c1),.k 3 (pV c3),.k 4 (pV c4),.k 6 (iV W.now),.k 19 (.slice p l.length cc),.k 20 (iV (l.length:Int)),.o 21 (oJ .i64 ((i:Int)+1) (((i+1):Nat):Int))]),h88⟩
  intro w89 h90
  have h91:sat g _ (E_ i::_):=h90
  have hlt92:=((List.getElem?_eq_some_iff.1 hx26).1:i<l.length)
  refine g0<|up<|g0 ?_
  exact en (.tuple #[]) [] ⟨⟨_,rfl⟩,.inr ⟨i,om,(tk2 h91.c.a.t4)⟩⟩
 refine go [.v 2 0 (oF _ c20)]<|up<|g0 ?_
 have he_:i=l.length:=(by omega)
 have h95:=h19.e.t9
 have h96:sat g w18 [TW b n ((stB (⟨bt,ba,cp⟩:Cf) W.now (S,W) l i).1),J_ i,Cl c1 [pV wb] 72,Cl c2 [.slice p l.length cc] 134,Cl c3 [pV b] 80,Cl c4 [iV x0,iV x1,iV x2,iV x3,iV x4,iV x5,iV bt,iV ba,iV cp,uV x9] 26,Wd wb Y.2,Sl 3 1 p l.length cc (fl eI l),R]:=(show Y.1=((stB (⟨bt,ba,cp⟩:Cf) W.now (S,W) l i).1) from (by rw[hY_]))▸h95
 have h97:=h96.f.t9
 have h98:sat g w18 [Wd wb ((stB (⟨bt,ba,cp⟩:Cf) W.now (S,W) l i).2),TW b n ((stB (⟨bt,ba,cp⟩:Cf) W.now (S,W) l i).1),J_ i,Cl c1 [pV wb] 72,Cl c2 [.slice p l.length cc] 134,Cl c3 [pV b] 80,Cl c4 [iV x0,iV x1,iV x2,iV x3,iV x4,iV x5,iV bt,iV ba,iV cp,uV x9] 26,Sl 3 1 p l.length cc (fl eI l),R]:=(show Y.2=((stB (⟨bt,ba,cp⟩:Cf) W.now (S,W) l i).2) from (by rw[hY_]))▸h97
 have h100:sat g w18 [J_ i,(AtB c1 c2 c3 c4 b n wb p cc l S W x0 x1 x2 x3 x4 x5 bt ba cp x9) i,R]:=sat_sw (sat_star (K:= [Cl c1 [pV wb] 72,Cl c2 [.slice p l.length cc] 134,Cl c3 [pV b] 80,Cl c4 [iV x0,iV x1,iV x2,iV x3,iV x4,iV x5,iV bt,iV ba,iV cp,uV x9] 26,TW b n ((stB (⟨bt,ba,cp⟩:Cf) W.now (S,W) l i).1),Wd wb ((stB (⟨bt,ba,cp⟩:Cf) W.now (S,W) l i).2),Sl 3 1 p l.length cc (fl eI l)]) h98.x.a.b.x.x.x.x.t9)
 exact en (.tuple #[]) [] ⟨⟨_,rfl⟩,.inl (he_▸h100)⟩
theorem attempts_ht(b wb:Nat)(p:Option Addr)(cc:Nat)(l:List Int)(x0 x1 x2 x3 x4 x5 bt ba cp x9:Int):HT prog 303 [pV b,pV wb,.agg #[iV x0,iV x1,iV x2,iV x3,iV x4,iV x5,iV bt,iV ba,iV cp,uV x9],.slice p l.length cc] [] (fun v K=> ∃c1 c2 c3 c4:Nat,v= .func (Fn.func 376) #[] #[pV c1,pV c2,pV c3,pV c4]∧K= [Cl c1 [pV wb] 72,Cl c2 [.slice p l.length cc] 134,Cl c3 [pV b] 80,Cl c4 [iV x0,iV x1,iV x2,iV x3,iV x4,iV x5,iV bt,iV ba,iV cp,uV x9] 26]):=by
 refine hiS func303 ntmps303 fun g w0 R h0=>g0<|nP 80 [pV b] h0 (fun r10 _ h12=> ?_)
 refine nP 72 [pV wb] h12 (fun r13 _ h15=> ?_)
 refine nP 26 [iV x0,iV x1,iV x2,iV x3,iV x4,iV x5,iV bt,iV ba,iV cp,uV x9] h15 (fun r16 _ h18=> ?_)
 refine nP 134 [.slice p l.length cc] h18 (fun r19 _ h21=> ?_)
 refine g0 ?_
 exact en (.func (Fn.func 376) #[] #[pV r13,pV r19,pV r10,pV r16]) [] ⟨_,_,rfl,⟨r13,r19,r10,r16,rfl,rfl⟩,h21.c.a.c.t5⟩
theorem appseq_ht(c1 c2 c3 c4 m:Nat)(L:List At)(Am:Nat→Assn)(hL:L.length=m)(hm:m≤10000)(hit:ITA prog 376 [pV c1,pV c2,pV c3,pV c4] m (fun i:Nat=> [vAt (L.getD i at0)]) Am):HT prog 375 [.slice none 0 0,.func (Fn.func 376) #[] #[pV c1,pV c2,pV c3,pV c4]] [Am 0] (fun v K=> ∃(p:Option Addr) (c:Nat),v= .slice p m c∧K= [Sl 50 6 p m c (fl eAt L),Am m]):=by
 refine hiS func375 ntmps375 fun g w0 R h0=>g0<|nP 44 [.slice none 0 0] h0 (fun r10 w11 h12=> ?_)
 have h13:sat g _ (Sl 50 6 none 0 0 (fl eAt [])::_):=sl_nil 50 6 h12
 have h14:sat g _ (Sl 50 6 none 0 0 (fl eAt (L.take 0))::_):=sat_imp h13 (fun _ hh_=>by rw[show ([]:List At)=(L.take 0) from (by simp)] at hh_;exact hh_)
 have h15:=h14.a.t4
 refine g0 ?_
 refine rfS2A (N:=m) (fun i rb_=>([(5,pV rb_),(7,.agg #[iV ((L.getD i at0).at_),iV ((L.getD i at0).out.1),iV ((L.getD i at0).out.2.1),uV ((L.getD i at0).out.2.2),iV ((L.getD i at0).why),iV ((L.getD i at0).ans)])]:Fr)) (fun i rb_ K=> ∃p:Option Addr,∃c:Nat,K= [Cl rb_ [iV ((L.getD i at0).at_),iV ((L.getD i at0).out.1),iV ((L.getD i at0).out.2.1),uV ((L.getD i at0).out.2.2),iV ((L.getD i at0).why),iV ((L.getD i at0).ans)] 50,Cl r10 [.slice p i c] 44,Sl 50 6 p i c (fl eAt (L.take i))]) (fun i K=> ∃p:Option Addr,∃c:Nat,K= [Cl r10 [.slice p i c] 44,Sl 50 6 p i c (fl eAt (L.take i))]) (fun c _ K=>False) call376 hit ⟨none,0,rfl⟩ h15 ?_ ?_ ?_ ?_
 ·
  rintro i hi_ lp_ w16 K_ G ⟨p,c,rfl⟩ h17
  have h18:sat g _ (Cl r10 [.slice p i c] 44::_):=h17
  refine g0<|nP 50 [iV 0,iV 0,iV 0,uV 0,iV 0,iV 0] h18 (fun r19 _ h21=> ?_)
  refine sA [iV ((L.getD i at0).at_),iV ((L.getD i at0).out.1),iV ((L.getD i at0).out.2.1),uV ((L.getD i at0).out.2.2),iV ((L.getD i at0).why),iV ((L.getD i at0).ans)] h21 fun _ h23=>g0 ?_
  exact enA r19 ⟨p,c,rfl⟩ h23
 ·
  rintro i hi26 lp_ w24 rb_ K_ G ⟨p,c,rfl⟩ h25
  have h27:sat g _ (Cl rb_ [iV ((L.getD i at0).at_),iV ((L.getD i at0).out.1),iV ((L.getD i at0).out.2.1),uV ((L.getD i at0).out.2.2),iV ((L.getD i at0).why),iV ((L.getD i at0).ans)] 50::_):=h25
  refine go [rd 3 0 1 0 1 h27,rd 3 1 0 0 6 h27]<|nG (fun q_=> .slice (some ⟨q_,0,none⟩) 1 1) 50 [iV ((L.getD i at0).at_),iV ((L.getD i at0).out.1),iV ((L.getD i at0).out.2.1),uV ((L.getD i at0).out.2.2),iV ((L.getD i at0).why),iV ((L.getD i at0).ans)] h27 (fun r28 _ h30=>⟨kd [],?_⟩)
  have h31:=h30.c.t6
  refine actG ?_
  refine aA 11 6 (Ot 8) (Ot 10) (.agg #[iV 0,iV 0,iV 0,uV 0,iV 0,iV 0]) p i c 1 1 (⟨r28,0,none⟩) 48 underlying44 h31 (fl eAt [(⟨(L.getD i at0).at_,((L.getD i at0).out.1,(L.getD i at0).out.2.1,(L.getD i at0).out.2.2),(L.getD i at0).why,(L.getD i at0).ans⟩:At)]) rfl (cell1 h31 rfl) (fl_one eAt_ok _) (i+1) ?_
  intro p32 cap33 w34 h35
  have h36:sat g _ (Sl 50 6 p32 (i+1) cap33 (fl eAt ((L.take i)++ [(⟨(L.getD i at0).at_,((L.getD i at0).out.1,(L.getD i at0).out.2.1,(L.getD i at0).out.2.2),(L.getD i at0).why,(L.getD i at0).ans⟩:At)]))::_):=sJ h35
  obtain⟨hn37,hn38⟩:=sl_le h36
  refine nxA<|sA [.slice p32 (i+1) cap33] h36.c.t6 fun w40 h41=>g0 ?_
  have h43:sat g _ (Sl 50 6 p32 (i+1) cap33 (fl eAt (L.take (i+1)))::_):=sat_imp h41.a.t6 (fun _ hh_=>by rw[show (((L.take i)++ [(⟨(L.getD i at0).at_,((L.getD i at0).out.1,(L.getD i at0).out.2.1,(L.getD i at0).out.2.2),(L.getD i at0).why,(L.getD i at0).ans⟩:At)]):List At)=(L.take (i+1)) from takeB_at om] at hh_;exact hh_)
  exact rbN ⟨p32,cap33,rfl⟩ (tk4 h43.e.e.b.c.t6)
 ·
  rintro D46 w47 K_ ⟨p,c,rfl⟩ h48
  have h49:sat g _ (pt D46 (Obj.deferred (some []))::_):=h48
  refine go [rd 4 0 1 0 1 h49] ?_
  have h51:sat g _ (Sl 50 6 p m c (fl eAt L)::_):=sat_imp h49.b.t5 (fun _ hh_=>by rw[show ((L.take m):List At)=L from (List.take_of_length_le om)] at hh_;exact hh_)
  refine enD (.slice p m c) h51.a.t5 (fun _ _=> []) (fun _ h53=> ?_) [] []
  exact⟨_,_,rfl,⟨p,c,rfl,rfl⟩,(tk3 (sf2 (sf2 (sf4 h53.c.b.t5))))⟩
 intro _ _ _ _ _ _ hf_;exact hf_.elim
theorem collect_ht(c1 c2 c3 c4 m:Nat)(L:List At)(Am:Nat→Assn)(hL:L.length=m)(hm:m≤10000)(hit:ITA prog 376 [pV c1,pV c2,pV c3,pV c4] m (fun i:Nat=> [vAt (L.getD i at0)]) Am):HT prog 302 [.func (Fn.func 376) #[] #[pV c1,pV c2,pV c3,pV c4]] [Am 0] (fun v K=> ∃(p:Option Addr) (c:Nat),v= .slice p m c∧K= [Sl 50 6 p m c (fl eAt L),Am m]):=by
 refine hiS func302 ntmps302 fun g w0 R h0=>g0<|cP call375 (appseq_ht c1 c2 c3 c4 m L Am hL hm hit) h0 ?_
 rintro v K _ (⟨p10,c11,rfl,rfl⟩) h13
 have h14:=ap2 h13
 refine g0 ?_
 exact en (.slice p10 m c11) [] ⟨_,_,rfl,⟨p10,c11,rfl,rfl⟩,h14⟩
theorem collect_w(c1 c2 c3 c4 b n wb:Nat)(p:Option Addr)(cc:Nat)(l:List Int)(S:Ts)(W:Wst)(x0 x1 x2 x3 x4 x5 bt ba cp x9:Int)(hb:1≤ba∧ba≤cp∧cp≤1048576)(hrun:RunOk (⟨bt,ba,cp⟩:Cf) W.now (S,W) l)(hll:l.length≤2000):HT prog 302 [Value.func (Fn.func 376) #[] #[pV c1,pV c2,pV c3,pV c4]] [Cl c1 [pV wb] 72,Cl c2 [Value.slice p l.length cc] 134,Cl c3 [pV b] 80,Cl c4 [iV x0,iV x1,iV x2,iV x3,iV x4,iV x5,iV bt,iV ba,iV cp,uV x9] 26,TW b n S,Wd wb W,Sl 3 1 p l.length cc (fl eI l)] (fun v K=> ∃(p2:Option Addr) (c5:Nat),v=Value.slice p2 l.length c5∧K= [TW b n ((runB (⟨bt,ba,cp⟩:Cf) W.now (S,W) l).1),Wd wb ((runB (⟨bt,ba,cp⟩:Cf) W.now (S,W) l).2),Sl 50 6 p2 l.length c5 (fl eAt (atsB (⟨bt,ba,cp⟩:Cf) W.now (S,W) l))]):=by
 intro g w F hs
 have h1:sat g w ((AtB c1 c2 c3 c4 b n wb p cc l S W x0 x1 x2 x3 x4 x5 bt ba cp x9) 0::F):=sat_star (K:= [Cl c1 [pV wb] 72,Cl c2 [Value.slice p l.length cc] 134,Cl c3 [pV b] 80,Cl c4 [iV x0,iV x1,iV x2,iV x3,iV x4,iV x5,iV bt,iV ba,iV cp,uV x9] 26,TW b n S,Wd wb W,Sl 3 1 p l.length cc (fl eI l)]) hs
 refine(collect_ht c1 c2 c3 c4 l.length (atsB (⟨bt,ba,cp⟩:Cf) W.now (S,W) l) (AtB c1 c2 c3 c4 b n wb p cc l S W x0 x1 x2 x3 x4 x5 bt ba cp x9) (ats_len _ _ _ _) om (att_it c1 c2 c3 c4 b n wb p cc l S W x0 x1 x2 x3 x4 x5 bt ba cp x9 hb hrun hll) g w F h1).mono ?_
 rintro e w' ⟨v,K,rfl,⟨p2,c5,rfl,rfl⟩,h2⟩
 refine⟨_,_,rfl,⟨p2,c5,rfl,rfl⟩,?_⟩
 have h3:sat g w' ((AtB c1 c2 c3 c4 b n wb p cc l S W x0 x1 x2 x3 x4 x5 bt ba cp x9) l.length::Sl 50 6 p2 l.length c5 (fl eAt (atsB (⟨bt,ba,cp⟩:Cf) W.now (S,W) l))::F):=sat_sw h2
 have h4:=sat_sel_tail (sat_sel_tail (sat_sel_tail (sat_sel_tail (sat_unstar h3))))
 rw[stB_end] at h4
 have h5:=sat_sel_tail (sat_rot (A:= [TW b n (runB (⟨bt,ba,cp⟩:Cf) W.now (S,W) l).1,Wd wb (runB (⟨bt,ba,cp⟩:Cf) W.now (S,W) l).2]) (B:=Sl 3 1 p l.length cc (fl eI l)::Sl 50 6 p2 l.length c5 (fl eAt (atsB (⟨bt,ba,cp⟩:Cf) W.now (S,W) l))::F) h4)
 have h6:=sat_rot (A:=Sl 50 6 p2 l.length c5 (fl eAt (atsB (⟨bt,ba,cp⟩:Cf) W.now (S,W) l))::F) (B:= [TW b n (runB (⟨bt,ba,cp⟩:Cf) W.now (S,W) l).1,Wd wb (runB (⟨bt,ba,cp⟩:Cf) W.now (S,W) l).2]) h5
 exact h6
theorem run_ok(b n wb:Nat)(S:Ts)(W:Wst)(x0 x1 x2 x3 x4 x5 bt ba cp x9:Int)(hc:(1≤bt∧bt≤64)∧(1≤ba∧ba≤cp∧cp≤1048576)∧bkE ba cp=0)(hrun:RunOk (⟨bt,ba,cp⟩:Cf) W.now (S,W) (dueB S W.now bt)):HT prog 217 [pV b,pV wb,.agg #[iV x0,iV x1,iV x2,iV x3,iV x4,iV x5,iV bt,iV ba,iV cp,uV x9]] [TW b n S,Wd wb W] (fun v K=> ∃(p:Option Addr) (c:Nat),v= .tuple #[.slice p ((dueB S W.now bt).length) c,iV 0]∧K= [TW b n ((runB (⟨bt,ba,cp⟩:Cf) W.now (S,W) (dueB S W.now bt)).1),Wd wb ((runB (⟨bt,ba,cp⟩:Cf) W.now (S,W) (dueB S W.now bt)).2),Sl 50 6 p ((dueB S W.now bt).length) c (fl eAt (atsB (⟨bt,ba,cp⟩:Cf) W.now (S,W) (dueB S W.now bt)))]):=by
 refine hiS func217 ntmps217 fun g w0 R h0=> ?_
 have hk_:=wd_ok (j:=1) h0 rfl;have d:=hk_.nl;have i:=hk_.nh;have hrl_:=(tw_ok (j:=0) h0 rfl).rl;have hsl_:(srtB S).length≤S.R.length:=(by rw[srtB_len];exact nums_le S.R 2);have hdl_:=due_le S W.now bt
 refine g0<|nP 26 [iV x0,iV x1,iV x2,iV x3,iV x4,iV x5,iV bt,iV ba,iV cp,uV x9] h0 (fun _ _ h12=> ?_)
 have h13:=h12.a.t4
 refine g0<|cl1 call299 (there_w b n S) h13 fun _ h15=> ?_
 have h17:=h15.b.t4
 refine g0<|cP call39 (wcopy_ht wb W) h17 ?_
 rintro v K _ (⟨b16,rfl,rfl⟩) h19
 have h20:=ap2 h19
 refine go [rd 3 1 3 6 1 h20,.v 3 2 (oF (bt<1)),rd 3 5 3 6 1 h20,.v 3 6 (oF (bt>64)),rd 3 10 3 7 1 h20,rd 3 12 3 8 1 h20]<|cl0 call58 (bkchk_ht ba cp) h20 fun _ h22=>go [.v 3 14 (qnF (bkE ba cp) 0)]<|dw (fls [0,1,3,4] (Tr.an 2 (Tr.an 5 (fls [6,7,8,9,10] Tr.nil)))) h22 fun _ h24=>go [rd 5 4 3 6 1 h24]<|cw1 call301 (wnow_ht wb W) h24 fun _ h26=>⟨kd [rd 0 4 3 6 1 h26],?_⟩
 refine cG call300 (due_w b n S W.now bt om) h26.b.t5 ?_
 rintro v K _ (⟨p27,c28,rfl,rfl⟩) h31
 have h32:=ap2 h31
 refine⟨kd [],?_⟩
 refine go [rd 8 2 4 0 10 h32]<|cP call303 (attempts_ht b wb p27 c28 (dueB S W.now bt) x0 x1 x2 x3 x4 x5 bt ba cp x9) h32 ?_
 rintro v K _ (⟨b33,b34,b35,b36,rfl,rfl⟩) h38
 refine cP call302 (collect_w b33 b34 b35 b36 b n wb p27 c28 (dueB S W.now bt) S W x0 x1 x2 x3 x4 x5 bt ba cp x9 om hrun om) ((ap4 h38).f.e.e.e.e.e.t10) ?_
 rintro v K _ (⟨p40,c41,rfl,rfl⟩) h44
 have h45:=ap3 h44
 refine g0 ?_
 exact en (.tuple #[.slice p40 ((dueB S W.now bt).length) c41,iV 0]) [] ⟨_,_,rfl,⟨p40,c41,rfl,rfl⟩,h45.E.D.t4⟩
theorem topn1(b n:Nat)(S:Ts)(L:List UInt8)(oz og:Int)(s:Nat)(gn:Int)(S2:Ts)(ds dg:Int)(hE:topE S (1,oz,og) L ((s:Int),gn)=0)(hD:opnD S (1,oz,og) L ((s:Int),gn)=(1,ds,dg))(hS:opnS S (1,oz,og) L ((s:Int),gn)=S2)(hf0:0≤og)(hf1:0≤ -og+4294967295)(hf2:0≤(tagE L))(hf3:0≤ -(tagE L)):HQ 206 [pV b,Value.agg #[iV 1,iV oz,uV og],Value.string (St L),Value.agg #[iV s,uV gn]] [TW b n S] (Value.tuple #[Value.agg #[iV 1,iV ds,uV dg],iV 0]) [TW b n S2]:=by
 have h:=topen_w b n S 1 oz og s gn L om om (by have:=tagE_len (show tagE L=0 by omega);omega)
 rw[hE,hD,hS] at h
 exact h
theorem tfnd0(b n:Nat)(S:Ts)(ds dg nz:Int)(hF:fndE S (1,ds,dg)=0)(hN:(fndX S (1,ds,dg)).num=nz)(hf0:0≤dg)(hf1:0≤ -dg+4294967295):HQ 282 [pV b,Value.agg #[iV 1,iV ds,uV dg]] [TW b n S] (Value.tuple #[iV nz,iV 0]) [TW b n S]:=by
 have h:=tnum_w b n S 1 ds dg om om
 rw[hF,hN] at h
 exact h
theorem tfnd7(b n:Nat)(S:Ts)(ds dg:Int)(hF:fndE S (1,ds,dg)=7)(hf0:0≤dg)(hf1:0≤ -dg+4294967295):HQ 282 [pV b,Value.agg #[iV 1,iV ds,uV dg]] [TW b n S] (Value.tuple #[iV 0,iV 7]) [TW b n S]:=by
 have h:=tnum_w b n S 1 ds dg om om
 rw[hF,fndX_stale hF dc] at h
 exact h
theorem tcls1(b n:Nat)(S:Ts)(ds dg nz:Int)(S2:Ts)(hF:fndE S (1,ds,dg)=0)(hN:(fndX S (1,ds,dg)).num=nz)(hL:clsL S (1,ds,dg)=true)(hS:clsS S (1,ds,dg)=S2)(hf0:0≤dg)(hf1:0≤ -dg+4294967295):HQ 288 [pV b,Value.agg #[iV 1,iV ds,uV dg]] [TW b n S] (Value.tuple #[iV nz,Value.bool true,iV 0]) [TW b n S2]:=by
 have h:=tclose_w b n S 1 ds dg om om
 rw[hF,hN,hL,hS] at h
 exact h
theorem tget1(b n:Nat)(S:Ts)(nz oz og:Int)(L:List UInt8)(hG:getR S nz=⟨(1,oz,og),1,0,0,0,L⟩)(hE:nE S nz=0):HQ 210 [pV b,iV nz] [TW b n S] (Value.tuple #[Value.agg #[iV 1,iV oz,uV og,iV 1,iV 0,iV 0,iV 0,Value.string (St L)],iV 0]) [TW b n S]:=by
 have h:=tget_w b n S nz
 rw[hG,hE] at h
 exact h
theorem tset1(b n:Nat)(S:Ts)(nz oz og wy:Int)(L:List UInt8)(S2:Ts)(hE:setE S nz ⟨(1,oz,og),2,wy,0,0,L⟩=0)(hS:setS S nz ⟨(1,oz,og),2,wy,0,0,L⟩=S2)(hf0:0≤og)(hf1:0≤ -og+4294967295)(hf2:0≤(tagE L))(hf3:0≤ -(tagE L)):HQ 316 [pV b,iV nz,Value.agg #[iV 1,iV oz,uV og,iV 2,iV wy,iV 0,iV 0,Value.string (St L)]] [TW b n S] (iV 0) [TW b n S2]:=by
 have h:=tset_w b n S nz 1 oz og 2 wy 0 0 L om om (by have:=tagE_len (show tagE L=0 by omega);omega)
 rw[hE,hS] at h
 exact h
theorem wacq1(b:Nat)(W:Wst)(x oz og:Int)(W2:Wst)(hE:acqE W 1 x=0)(hO:acqO W 1 x=(1,oz,og))(hS:acqS W 1 x=W2):HQ 202 [pV b,iV 1,iV x] [Wd b W] (Value.tuple #[Value.agg #[iV 1,iV oz,uV og],iV 0]) [Wd b W2]:=by
 have h:=wacq_ht b W 1 x
 rw[hE,hO,hS] at h
 exact h
theorem wnow0(b:Nat)(W:Wst)(hN:W.now=0):HQ 301 [pV b] [Wd b W] (iV 0) [Wd b W]:=by
 have h:=wnow_ht b W
 rw[hN] at h
 exact h
theorem brun1(b n wb:Nat)(S:Ts)(W:Wst)(x0 x1 x2 x3 x4 x5 bt ba cp x9 nz oz og wy:Int)(S2:Ts)(W2:Wst)(hd:dueB S W.now bt= [nz])(hr:RunOk (⟨bt,ba,cp⟩:Cf) W.now (S,W) [nz])(hp:runB (⟨bt,ba,cp⟩:Cf) W.now (S,W) [nz]=(S2,W2))(ha:atsB (⟨bt,ba,cp⟩:Cf) W.now (S,W) [nz]= [(⟨0,(1,oz,og),wy,1⟩:At)])(hf0:0≤bt-1)(hf1:0≤ -bt+64)(hf2:0≤ba-1)(hf3:0≤cp-ba)(hf4:0≤ -cp+1048576):HT prog 217 [pV b,pV wb,Value.agg #[iV x0,iV x1,iV x2,iV x3,iV x4,iV x5,iV bt,iV ba,iV cp,uV x9]] [TW b n S,Wd wb W] (fun v K=> ∃p:Option Addr,∃c:Nat,v=Value.tuple #[Value.slice p 1 c,iV 0]∧K= [TW b n S2,Wd wb W2,Sl 50 6 p 1 c (fl eAt [(⟨0,(1,oz,og),wy,1⟩:At)])]):=by
 have h:=run_ok b n wb S W x0 x1 x2 x3 x4 x5 bt ba cp x9 ⟨by omega,by omega,by unfold bkE;rw[if_neg om]⟩ (by rw[hd];exact hr)
 rw[hd,hp,ha] at h
 exact h
theorem bkc0(ba cp:Int)(hf0:0≤ba-1)(hf1:0≤cp-ba)(hf2:0≤ -cp+1048576):HQ 58 [iV ba,iV cp] [] (iV 0) []:=by
 have h:=bkchk_ht ba cp
 rw[show bkE ba cp=0 from by unfold bkE;rw[if_neg om]] at h
 exact h
theorem ut15_1_in(a:Nat)(hf0:0≤(a:Int)-1)(hf1:0≤ -(a:Int)+256):HQ 57 [iV a,iV 256] [] (.bool true) []:=by
 refine hiS func57 ntmps57 fun g w0 R h0=>go [.v 1 1 (oT ((a:Int)≥1)),.v 1 5 (oT ((a:Int)≤256))] ?_
 exact enR _ [] h0
theorem ut15_2_in(a:Int)(hf0:0≤a-1)(hf1:0≤ -a+256):HQ 57 [iV a,iV 256] [] (.bool true) []:=by
 refine hiS func57 ntmps57 fun g w0 R h0=>go [.v 1 1 (oT (a≥1)),.v 1 5 (oT (a≤256))] ?_
 exact enR _ [] h0
theorem ut15_3_in(a:Nat)(hf0:0≤(a:Int)-1)(hf1:0≤ -(a:Int)+4):HQ 57 [iV a,iV 4] [] (.bool true) []:=by
 refine hiS func57 ntmps57 fun g w0 R h0=>go [.v 1 1 (oT ((a:Int)≥1)),.v 1 5 (oT ((a:Int)≤4))] ?_
 exact enR _ [] h0
theorem ut15_4_in(a:Int)(hf0:0≤a-1)(hf1:0≤ -a+64):HQ 57 [iV a,iV 64] [] (.bool true) []:=by
 refine hiS func57 ntmps57 fun g w0 R h0=>go [.v 1 1 (oT (a≥1)),.v 1 5 (oT (a≤64))] ?_
 exact enR _ [] h0
theorem ut15_5_allowed(b c:Nat)(d e:Int)(f:Nat)(i j k l m:Int)(hf0:0≤(b:Int)-1)(hf1:0≤ -(b:Int)+256)(hf2:0≤i-1)(hf3:0≤ -i+256)(hf4:0≤(c:Int)-1)(hf5:0≤ -(c:Int)+4)(hf6:0≤d-1)(hf7:0≤ -d+64)(hf8:0≤e-1)(hf9:0≤ -e+64)(hf10:0≤(f:Int)-1)(hf11:0≤ -(f:Int)+64)(hf12:0≤j-1)(hf13:0≤ -j+64)(hf14:0≤k-1)(hf15:0≤l-k)(hf16:0≤ -l+1048576)(hf17:0≤m-1):HQ 26 [.agg #[iV b,iV c,iV d,iV e,iV f,iV i,iV j,iV k,iV l,uV m]] [] (.bool true) []:=by
 refine hiS func26 ntmps26 fun g w0 R h0=>g0<|nP 26 [iV b,iV c,iV d,iV e,iV f,iV i,iV j,iV k,iV l,uV m] h0 (fun _ _ h12=> ?_)
 refine go [rd 1 1 0 0 1 h12]<|cl0 call57 (ut15_1_in b om om) h12 fun _ h14=>go [rd 1 5 0 5 1 h14]<|cl0 call57 (ut15_2_in i om om) h14 fun _ h16=>go [rd 1 10 0 1 1 h16]<|cl0 call57 (ut15_3_in c om om) h16 fun _ h18=>go [rd 1 15 0 2 1 h18]<|cl0 call57 (ut15_4_in d om om) h18 fun _ h20=>go [rd 1 20 0 3 1 h20]<|cl0 call57 (ut15_4_in e om om) h20 fun _ h22=>go [rd 1 25 0 4 1 h22]<|cl0 call57 (ut15_4_in (f:Int) om om) h22 fun _ h24=>go [rd 1 30 0 6 1 h24] ?_
 refine cl0 call57 (ut15_4_in j om om) h24 fun _ h26=>go [rd 1 35 0 7 1 h26,rd 1 37 0 8 1 h26]<|cl0 call58 (bkc0 k l om om om) h26 fun _ h28=>go [rd 1 43 0 9 1 h28,.v 1 44 (oT (m≥1))] ?_
 exact enR _ [] h28.a.t1
theorem rgnew(n m:Nat)(zz yy:Int)(q:Nat)(mq bt ba cp fi:Int)(hf0:0≤(n:Int)-1)(hf1:0≤ -(n:Int)+256)(hf2:0≤(m:Int)-1)(hf3:0≤ -(m:Int)+4)(hf4:0≤zz-1)(hf5:0≤ -zz+64)(hf6:0≤yy-1)(hf7:0≤ -yy+64)(hf8:0≤(q:Int)-1)(hf9:0≤ -(q:Int)+64)(hf10:0≤mq-1)(hf11:0≤ -mq+256)(hf12:0≤bt-1)(hf13:0≤ -bt+64)(hf14:0≤ba-1)(hf15:0≤cp-ba)(hf16:0≤ -cp+1048576)(hf17:0≤fi-1)(hf18:0≤ -fi+4294967295):HT prog 16 [.agg #[iV n,iV m,iV zz,iV yy,iV q,iV mq,iV bt,iV ba,iV cp,uV fi]] [] (fun v K=> ∃b:Nat,∃ar:Nat,∃yc:Nat,∃rq:Nat,∃tb:Nat,∃wd:Nat,∃qo:Nat,∃lk:Nat,v= .tuple #[pV b,iV 0]∧K= [Cl b [pV ar,pV yc,pV rq,iV n,iV m,iV zz,iV yy,iV q,iV mq,iV bt,iV ba,iV cp,uV fi,pV tb,pV wd,pV qo,pV lk] 84,Ar0 ar n m (List.replicate n (0,fi)),Cy yc n m 0 0 0 0 (n:Int) 0,Rq0 rq q 0,TW tb 256 (⟨List.replicate 256 (0,fi),[],[]⟩),Wd wd (wnew fi),Cl qo [iV mq,.pointer none] 191,Rpo lk 0 []]):=by
 refine hiS func16 ntmps16 fun g w0 R h0=>g0<|nP 26 [iV n,iV m,iV zz,iV yy,iV q,iV mq,iV bt,iV ba,iV cp,uV fi] h0 (fun _ _ h12=> ?_)
 refine go [rd 1 0 0 0 10 h12]<|cl0 call26 (ut15_5_allowed n m zz yy q mq bt ba cp fi om om om om om om om om om om om om om om om om om om) h12 fun _ h14=>g0<|dw (Tr.fl 0 (Tr.an 1 (Tr.fl 2 (Tr.an 3 (Tr.fl 4 Tr.nil))))) h14 fun _ h16=>go [rd 3 0 0 0 10 h16]<|cG call27 rpnew h16 ?_
 rintro v K _ (⟨b17,rfl,rfl⟩) h19
 have h20:=ap1 h19
 refine⟨kd [rd 0 0 1 0 10 h20],?_⟩
 refine g0<|nG (fun q_=>pV q_) 84 [.pointer none,.pointer none,.pointer none,iV n,iV m,iV zz,iV yy,iV q,iV mq,iV bt,iV ba,iV cp,uV fi,.pointer none,.pointer none,.pointer none,pV b17] h20 (fun r21 _ h23=>⟨kd [],?_⟩)
 refine g0<|nP 89 [iV 0,iV 0,iV 0,iV 0,iV 0,iV 0] h23 (fun r24 _ h26=> ?_)
 refine go [rd 5 2 3 0 1 h26,rd 5 4 3 1 1 h26,rd 5 6 3 9 1 h26]<|cP call28 (anew_ht n m fi om om om om om om) h26 ?_
 rintro v K _ (⟨b27,rfl,rfl⟩) h29
 have h31:=(ap1 h29).b.t6
 refine g0<|sP [(0,pV b27)] [pV b27,.pointer none,.pointer none,iV n,iV m,iV zz,iV yy,iV q,iV mq,iV bt,iV ba,iV cp,uV fi,.pointer none,.pointer none,.pointer none,pV b17] h31 fun _ h33=>lwP (pV r24) (law_indexArr (x:=Ot 5) (i:=(Operand.const (iV 0))) (b:=r24) (off:=0) (z:=0) kr underlying89 1 kr 0 kr kr om om 0 om _)<|sP [(0,iV 0)] [iV 0,iV 0,iV 0,iV 0,iV 0,iV 0] h33.b.t6 fun _ h36=>go [rd 6 1 4 0 10 h36]<|cP call29 (cynew n m mq ba cp (q:Int) bt fi zz yy om om om om om om om om) h36 ?_
 rintro v K _ (⟨b37,rfl,rfl⟩) h39
 have h41:=(ap1 h39).b.t7
 refine g0<|sP [(1,pV b37)] [pV b27,pV b37,.pointer none,iV n,iV m,iV zz,iV yy,iV q,iV mq,iV bt,iV ba,iV cp,uV fi,.pointer none,.pointer none,.pointer none,pV b17] h41 fun _ h43=>lwP (.pointer (some ⟨r24,1,none⟩)) (law_indexArr (x:=Ot 5) (i:=(Operand.const (iV 1))) (b:=r24) (off:=0) (z:=1) kr underlying89 1 kr 1 kr kr om om 1 om _)<|sP [(1,iV 0)] [iV 0,iV 0,iV 0,iV 0,iV 0,iV 0] h43.b.t7 fun _ h46=>go [rd 7 2 5 4 1 h46]<|cP call30 (rqnew q om om) h46 ?_
 rintro v K _ (⟨b47,rfl,rfl⟩) h49
 have h51:=(ap1 h49).b.t8
 refine g0<|sP [(2,pV b47)] [pV b27,pV b37,pV b47,iV n,iV m,iV zz,iV yy,iV q,iV mq,iV bt,iV ba,iV cp,uV fi,.pointer none,.pointer none,.pointer none,pV b17] h51 fun _ h53=>lwP (.pointer (some ⟨r24,2,none⟩)) (law_indexArr (x:=Ot 5) (i:=(Operand.const (iV 2))) (b:=r24) (off:=0) (z:=2) kr underlying89 1 kr 2 kr kr om om 2 om _)<|sP [(2,iV 0)] [iV 0,iV 0,iV 0,iV 0,iV 0,iV 0] h53.b.t8 fun _ h56=>go [rd 8 2 6 9 1 h56]<|cP call31 (tnew_w 256 fi om om) h56 ?_
 rintro v K _ (⟨b57,rfl,rfl⟩) h59
 have h61:=(ap1 h59).b.t9
 refine g0<|sP [(13,pV b57)] [pV b27,pV b37,pV b47,iV n,iV m,iV zz,iV yy,iV q,iV mq,iV bt,iV ba,iV cp,uV fi,pV b57,.pointer none,.pointer none,pV b17] h61 fun _ h63=>lwP (.pointer (some ⟨r24,3,none⟩)) (law_indexArr (x:=Ot 5) (i:=(Operand.const (iV 3))) (b:=r24) (off:=0) (z:=3) kr underlying89 1 kr 3 kr kr om om 3 om _)<|sP [(3,iV 0)] [iV 0,iV 0,iV 0,iV 0,iV 0,iV 0] h63.b.t9 fun _ h66=>go [rd 9 2 7 9 1 h66]<|cP call32 (wnew_ht fi om) h66 ?_
 rintro v K _ (⟨b67,rfl,rfl⟩) h69
 have h71:=(ap1 h69).b.t10
 refine g0<|sP [(14,pV b67)] [pV b27,pV b37,pV b47,iV n,iV m,iV zz,iV yy,iV q,iV mq,iV bt,iV ba,iV cp,uV fi,pV b57,pV b67,.pointer none,pV b17] h71 fun _ h73=>lwP (.pointer (some ⟨r24,4,none⟩)) (law_indexArr (x:=Ot 5) (i:=(Operand.const (iV 4))) (b:=r24) (off:=0) (z:=4) kr underlying89 1 kr 4 kr kr om om 4 om _)<|sP [(4,iV 0)] [iV 0,iV 0,iV 0,iV 0,iV 0,iV 0] h73.b.t10 fun _ h76=>go [rd 10 2 8 5 1 h76]<|cP call33 (qtnew mq om om) h76 ?_
 rintro v K _ (⟨b77,rfl,rfl⟩) h79
 have h81:=(ap1 h79).b.t11
 refine g0<|sP [(15,pV b77)] [pV b27,pV b37,pV b47,iV n,iV m,iV zz,iV yy,iV q,iV mq,iV bt,iV ba,iV cp,uV fi,pV b57,pV b67,pV b77,pV b17] h81 fun _ h83=>lwP (.pointer (some ⟨r24,5,none⟩)) (law_indexArr (x:=Ot 5) (i:=(Operand.const (iV 5))) (b:=r24) (off:=0) (z:=5) kr underlying89 1 kr 5 kr kr om om 5 om _)<|sP [(5,iV 0)] [iV 0,iV 0,iV 0,iV 0,iV 0,iV 0] h83.b.t11 fun _ h86=>go [rd 11 0 0 0 6 h86,.s 11 2]<|lwP (.bool false) (law_neS (x:=Ot 79) (y:=Ot 80) (t:=89) (xs:= #[iV 0,iV 0,iV 0,iV 0,iV 0,iV 0]) kr kr kr kr kr kr kr _)<|g0 ?_
 exact en (.tuple #[pV r21,iV 0]) [] ⟨_,_,rfl,⟨r21,b27,b37,b47,b57,b67,b77,b17,rfl,rfl⟩,(tk9 (sf8 (sf8 (sf8 (sf8 (sf8 (sf8 (sf8 (sf8 (sf10 h86.h.c.d.e.f.x.h.h.t11))))))))))⟩
theorem ut15_6_valid(a b c d e f:Nat)(i j:Int)(k:Nat)(l m o p q:Int)(s t u x:Nat):HQ 23 [pV a] [Cl a [pV b,pV c,pV d,iV e,iV f,iV i,iV j,iV k,iV l,iV m,iV o,iV p,uV q,pV s,pV t,pV u,pV x] 84] (.bool true) [Cl a [pV b,pV c,pV d,iV e,iV f,iV i,iV j,iV k,iV l,iV m,iV o,iV p,uV q,pV s,pV t,pV u,pV x] 84]:=by
 refine hiS func23 ntmps23 fun g w0 R h0=>go [rd 1 6 0 13 1 h0] ?_
 exact enR _ [] h0
theorem ut15_7_Stats(f i j k l m:Nat)(o p:Int)(q:Nat)(s t u x y:Int)(e z A B:Nat)(d:Ts):HQ 15 [pV f] [Cl f [pV i,pV j,pV k,iV l,iV m,iV o,iV p,iV q,iV s,iV t,iV u,iV x,uV y,pV e,pV z,pV A,pV B] 84,TW e 256 d] (.agg #[iV (d.R.length:Int),iV (((nums d.R 1).length:Nat):Int),iV (((nums d.R 2).length:Nat):Int),iV (((nums d.R 3).length:Nat):Int),iV (((nums d.R 4).length:Nat):Int)]) [Cl f [pV i,pV j,pV k,iV l,iV m,iV o,iV p,iV q,iV s,iV t,iV u,iV x,uV y,pV e,pV z,pV A,pV B] 84,TW e 256 d]:=by
 refine hiS func15 ntmps15 fun g w0 R h0=>g0<|nP 59 [iV 0,iV 0,iV 0,iV 0,iV 0] h0 (fun _ _ h12=> ?_)
 have h13:=h12.a.t4
 refine g0<|cl1 call23 (ut15_6_valid f i j k l m o p q s t u x y e z A B) h13 fun _ h15=> ?_
 have h16:=h15.b.t4
 refine go [rd 3 3 0 13 1 h15]<|cl1 call25 (stof e 256 d) h16 fun _ h18=>g0<|nP 59 [iV 0,iV 0,iV 0,iV 0,iV 0] h18 (fun _ _ h21=> ?_)
 refine sA [iV (d.R.length:Int),iV (((nums d.R 1).length:Nat):Int),iV (((nums d.R 2).length:Nat):Int),iV (((nums d.R 3).length:Nat):Int),iV (((nums d.R 4).length:Nat):Int)] h21 fun _ h23=> ?_
 have h24:=h23.c.t5
 refine go [rd 4 0 0 0 5 h23]<|sA [iV (d.R.length:Int),iV (((nums d.R 1).length:Nat):Int),iV (((nums d.R 2).length:Nat):Int),iV (((nums d.R 3).length:Nat):Int),iV (((nums d.R 4).length:Nat):Int)] h24 fun _ h26=>g0 ?_
 exact enR _ [rd 0 0 0 0 5 h26] (tk3 (sf2 (sf2 (sf4 h26.b.c.t5))))
theorem rgused(b ar yc rq n m:Nat)(zz yy:Int)(q:Nat)(mq bt ba cp fi:Int)(tb wd qo lk:Nat)(S:Ts):HQ 220 [pV b] [Cl b [pV ar,pV yc,pV rq,iV n,iV m,iV zz,iV yy,iV q,iV mq,iV bt,iV ba,iV cp,uV fi,pV tb,pV wd,pV qo,pV lk] 84,TW tb 256 S] (iV ((S.R.length:Int)-(((nums S.R 3).length:Nat):Int))) [Cl b [pV ar,pV yc,pV rq,iV n,iV m,iV zz,iV yy,iV q,iV mq,iV bt,iV ba,iV cp,uV fi,pV tb,pV wd,pV qo,pV lk] 84,TW tb 256 S]:=by
 refine hiS func220 ntmps220 fun g w0 R h0=> ?_
 have hW_:=(tw_ok (j:=1) h0 rfl);have hrl_:=hW_.rl;have hsm_:=nums_sum hW_
 refine g0<|cl2 call15 (ut15_7_Stats b ar yc rq n m zz yy q mq bt ba cp fi tb wd qo lk S) h0 fun _ h11=>cl0 call305 (stused (S.R.length:Int) (((nums S.R 1).length:Nat):Int) (((nums S.R 2).length:Nat):Int) (((nums S.R 3).length:Nat):Int) (((nums S.R 4).length:Nat):Int) om om om om om om om) h11 fun _ h13=>g0 ?_
 exact enR _ [] h13
theorem ut15_8_Marker(a c d b e:Nat)(f i:Int):HQ 92 [pV a] [Cl a [pV b,pV e,iV c,iV d,iV f,iV i,.bool false] 158] (pV b) [Cl a [pV b,pV e,iV c,iV d,iV f,iV i,.bool false] 158]:=by
 refine hiS func92 ntmps92 fun g w0 R h0=>g0<|cl1 call114 (ut6_2_valid a b e c d f i) h0 fun _ h11=>go [rd 3 3 0 0 1 h11] ?_
 exact enR _ [] h11
theorem ut15_9_Open1(i:Nat)(j:Int)(t u y C D E F s G:Nat)(H I:Int)(J:Nat)(L M N O P:Int)(k Q S l:Nat)(m:Ts)(z:Int)(o:KlT)(a c:Int)(f:List UInt8)(p:Nat)(q:Int)(A:Ts)(B:KlT)(T:topE m (1,a,c) f ((i:Int),j)=0)(U:opnD m (1,a,c) f ((i:Int),j)=(1,(p:Int),q))(V:opnS m (1,a,c) f ((i:Int),j)=A)(W:gget o (1,a,c)=none)(X:gset o (1,a,c) (f, -1,0,0,2)=B)(hf0:0≤a)(hf1:0≤ -a+63)(hf2:0≤c-1)(hf3:0≤ -c+4294967295)(hf4:0≤(tagE f))(hf5:0≤ -(tagE f))(hf6:0≤ -(o.length:Int)+1999):HQ 204 [.agg #[iV i,uV j],pV t,pV u,pV y] [Cl s [pV F,pV E,pV G,iV C,iV D,iV H,iV I,iV J,iV L,iV M,iV N,iV O,uV P,pV k,pV Q,pV S,pV l] 84,TW k 256 m,Rpo l z o,Cl t [pV s] 55,Cl u [iV 1,iV a,uV c] 48,Cl y [.string (St f)] 9] (.tuple #[.agg #[iV 1,iV p,uV q],iV 0]) [Cl s [pV F,pV E,pV G,iV C,iV D,iV H,iV I,iV J,iV L,iV M,iV N,iV O,uV P,pV k,pV Q,pV S,pV l] 84,TW k 256 A,Rpo l z B,Cl t [pV s] 55,Cl u [iV 1,iV a,uV c] 48,Cl y [.string (St f)] 9]:=by
 refine hiS func204 ntmps204 fun g w0 R h0=>g0<|nP 203 [iV i,uV j] h0 (fun _ _ h12=> ?_)
 refine nP 39 [iV 0,iV 0,uV 0] h12 (fun _ _ h15=> ?_)
 refine g0<|dw (fls [0,1,2,3,4,5] (Tr.an 6 Tr.nil)) h15 fun _ h17=> ?_
 have h18:=h17.d.t9
 refine go [rd 1 0 5 0 1 h17,rd 1 3 2 16 1 h17,rd 1 4 6 0 3 h17,rd 1 5 7 0 1 h17]<|cw1 call205 (rpopen l z o a c f B W X om om om om om om om) h18 fun _ h20=>⟨kd [],?_⟩
 refine g0<|dw (fls [0,1,2,3,4,5,6] (Tr.an 7 (fls [8,9] (Tr.an 10 (Tr.fl 11 Tr.nil))))) h20 fun _ h22=> ?_
 have h23:=h22.d.t9
 refine go [rd 2 0 5 0 1 h22,rd 2 3 3 13 1 h22,rd 2 4 6 0 3 h22,rd 2 5 7 0 1 h22,rd 2 6 2 0 2 h22]<|cw1 call206 (topn1 k 256 m f a c i j A (p:Int) q T U V om om om om) h23 fun _ h25=>⟨kd [],?_⟩
 have h26:=h25.b.t9
 refine g0<|sB [iV 1,iV p,uV q] h26 fun _ h28=>⟨kd [],?_⟩
 refine g0 ?_
 exact enR (.tuple #[.agg #[iV 1,iV p,uV q],iV 0]) [rd 0 0 0 0 3 h28] (tk7 (sf6 (sf6 (sf6 (sf6 (sf6 (sf6 (sf8 h28.x.x.x.e.e.x.t9))))))))
theorem rghandle(b ar yc rq n m:Nat)(zz yy:Int)(q:Nat)(mq bt ba cp fi:Int)(tb lk:Nat)(L:List UInt8)(A:List Sl2)(s:Nat)(gn ec bg at_ nx:Int)(S:Ts)(oz og:Int)(dk:Nat)(dg:Int)(S2:Ts)(tz:Int)(E E2:KlT)(r5 r6 r7 wd qo:Nat)(hA:freeS A=some (s,gn))(hTE:topE S (1,oz,og) L ((s:Int),gn)=0)(hTD:opnD S (1,oz,og) L ((s:Int),gn)=(1,(dk:Int),dg))(hTS:opnS S (1,oz,og) L ((s:Int),gn)=S2)(hG:gget E (1,oz,og)=none)(hGS:gset E (1,oz,og) (L, -1,0,0,2)=E2)(hf0:0≤(m:Int)-1)(hf1:0≤(tagE L))(hf2:0≤ -(tagE L))(hf3:0≤ -(E.length:Int)+1999)(hf4:0≤oz)(hf5:0≤ -oz+63)(hf6:0≤og-1)(hf7:0≤ -og+4294967295)(hf8:0≤ -(dk:Int)+255)(hf9:0≤ -(s:Int)+255)(hf10:0≤(n:Int)-(s:Int)-1)(hf11:0≤ -(n:Int)+256)(hf12:0≤gn-1)(hf13:0≤dg)(hf14:0≤ -dg+4294967295):HQ 203 [pV b,iV 0,.func (Fn.func 204) #[] #[pV r5,pV r6,pV r7]] [Cl b [pV ar,pV yc,pV rq,iV n,iV m,iV zz,iV yy,iV q,iV mq,iV bt,iV ba,iV cp,uV fi,pV tb,pV wd,pV qo,pV lk] 84,Ar0 ar n m A,Cy yc n m 0 ec 0 at_ nx bg,Rq0 rq q 0,TW tb 256 S,Rpo lk tz E,Cl r5 [pV b] 55,Cl r6 [iV 1,iV oz,uV og] 48,Cl r7 [.string (St L)] 9] (.tuple #[.agg #[iV 1,iV dk,uV dg],iV 0]) [Cl b [pV ar,pV yc,pV rq,iV n,iV m,iV zz,iV yy,iV q,iV mq,iV bt,iV ba,iV cp,uV fi,pV tb,pV wd,pV qo,pV lk] 84,Ar2 ar n m (takeA A) s gn,Cy yc n m 0 ec 0 at_ nx bg,Rq1 rq q dk s gn,TW tb 256 S2,Rpo lk tz E2,Cl r5 [pV b] 55,Cl r6 [iV 1,iV oz,uV og] 48,Cl r7 [.string (St L)] 9]:=by
 refine hiS func203 ntmps203 fun g w0 R h0=> ?_
 obtain⟨mk11,sw12,tl13,hp14,hp15,hp16,hp17,hp18,h19⟩:=Cy_open h0.b.t10
 have h20:sat g _ (Cl yc [pV mk11,pV sw12,iV n,iV m,iV at_,iV bg,.bool false] 158::_):=h19
 refine g0<|nP 39 [iV 0,iV 0,uV 0] h20 (fun r21 _ h23=> ?_)
 have h24:=h23.e.t13
 refine go [rd 1 4 4 0 1 h23]<|cl1 call91 (amake_ht ar n m A s gn hA) h24 fun _ h26=>g0<|nP 203 [iV 0,uV 0] h26 (fun r27 _ h29=> ?_)
 refine sA [iV s,uV gn] h29 fun _ h31=>g0<|dw (fls [0,1,2,3,4,6] (Tr.an 5 (Tr.an 7 Tr.nil))) h31 fun _ h33=> ?_
 have h34:=h33.c.t14
 refine go [rd 4 4 6 1 1 h33,rd 4 6 0 0 2 h33]<|cw1 call92 (ut15_8_Marker yc n m mk11 sw12 at_ bg) h34 fun _ h36=>⟨kd [rd 0 6 1 0 2 h36],?_⟩
 refine cw1 call93 (mmade mk11 n m ec 0 (s:Int) gn om om om) h36.d.t14 fun _ h39=>⟨kd [],?_⟩
 have h40:=h39.l.l.l.l.l.k.t14
 refine go [rd 5 1 2 0 2 h39]<|cl6 call204 (ut15_9_Open1 s gn r5 r6 r7 n m yc ar b rq zz yy q mq bt ba cp fi tb wd qo lk S tz E oz og L dk dg S2 E2 hTE hTD hTS hG hGS om om om om om om om) h40 fun _ h42=>g0<|nP 39 [iV 0,iV 0,uV 0] h42 (fun r43 _ h45=> ?_)
 refine sA [iV 1,iV dk,uV dg] h45 fun _ h47=>g0<|dw (fls [0,1,2,3,4,5,6,7,8] (Tr.an 9 (Tr.an 10 (Tr.fl 11 Tr.nil)))) h47 fun _ h49=> ?_
 have h50:=h49.m.t15
 refine go [rd 8 0 0 0 3 h49,rd 8 5 1 2 1 h49,rd 8 7 0 1 1 h49,rd 8 8 9 0 2 h49]<|cw1 call272 (rqreg rq q dk s gn om om om) h50 fun _ h52=>⟨kd [rd 0 0 1 0 3 h52],?_⟩
 refine sB [iV 1,iV dk,uV dg] h52.l.t15 fun w54 h55=>⟨kd [],?_⟩
 refine g0 ?_
 have h57:sat g _ (Cy yc n m 0 ec 0 at_ nx bg::_):=Cy_close yc n m 0 ec 0 at_ nx bg mk11 sw12 tl13 hp14 hp15 hp16 hp17 hp18 h55.m.j.k.t15
 exact enR (.tuple #[.agg #[iV 1,iV dk,uV dg],iV 0]) [rd 0 0 0 0 3 h55] (tk10 (sf9 (sf9 (sf9 (sf9 (sf9 (sf9 (sf9 (sf9 (sf9 (sf12 h57.i.i.i.i.i.x.f.k.j.t13)))))))))))
theorem ut15_10_mutator(b c d e f a:Nat)(i j:Int)(k:Nat)(l m o p q:Int)(s t u x:Nat)(hf0:0≤(a:Int)-1):HQ 198 [pV b,iV 0] [Cl b [pV c,pV d,pV e,iV f,iV a,iV i,iV j,iV k,iV l,iV m,iV o,iV p,uV q,pV s,pV t,pV u,pV x] 84] (iV 0) [Cl b [pV c,pV d,pV e,iV f,iV a,iV i,iV j,iV k,iV l,iV m,iV o,iV p,uV q,pV s,pV t,pV u,pV x] 84]:=by
 refine hiS func198 ntmps198 fun g w0 R h0=>g0<|cl1 call23 (ut15_6_valid b c d e f a i j k l m o p q s t u x) h0 fun _ h11=>go [rd 3 8 0 4 1 h11,.v 3 9 (oF (0≥(a:Int)))] ?_
 exact enR _ [] h11
theorem ut15_11_good(a:Int)(hf0:0≤a)(hf1:0≤ -a+65535):HQ 199 [iV 1,iV a] [] (.bool true) []:=by
 refine hiS func199 ntmps199 fun g w0 R h0=>go [.v 3 1 (oT (a≥0)),.v 3 4 (oT (a≤65535))] ?_
 exact enR _ [] h0
theorem ut15_12_ask(o s f t i j:Nat)(u x:Int)(y:Nat)(k z A B C:Int)(m D l E:Nat)(d p q:Int)(e:Ts)(hf0:0≤(e.R.length:Int)-(((nums e.R 3).length:Nat):Int))(hf1:0≤k-(e.R.length:Int)+(((nums e.R 3).length:Nat):Int)-1)(hf2:0≤d)(hf3:0≤ -d+1099511627776):HQ 200 [pV o] [Cl o [pV s,pV f,pV t,iV i,iV j,iV u,iV x,iV y,iV k,iV z,iV A,iV B,uV C,pV m,pV D,pV l,pV E] 84,Cy f i j 0 d 0 p q d,TW m 256 e,Cl l [iV k,.pointer none] 191] (iV 0) [Cl o [pV s,pV f,pV t,iV i,iV j,iV u,iV x,iV y,iV k,iV z,iV A,iV B,uV C,pV m,pV D,pV l,pV E] 84,Cy f i j 0 d 0 p q d,TW m 256 e,Cl l [iV k,.pointer none] 191]:=by
 refine hiS func200 ntmps200 fun g w0 R h0=>g0<|dw (fls [0,1,2,3,4,6,7,8,9,10,12,13,14,15,16] (Tr.an 5 (Tr.an 11 (Tr.an 17 (Tr.an 18 (Tr.fl 19 Tr.nil)))))) h0 fun _ h11=> ?_
 have h12:=h11.b.a.t5
 refine go [rd 1 3 0 15 1 h11,rd 1 10 0 1 1 h11,rd 1 16 0 1 1 h11]<|cw2 call220 (rgused o s f t i j u x y k z A B C m D l E e) h12 fun _ h14=>⟨kd [rd 0 16 0 1 1 h14,rd 0 10 0 1 1 h14,rd 0 3 0 15 1 h14],?_⟩
 refine cw1 call263 (cybg f i j 0 d 0 p q d) h14.b.t5 fun _ h17=>⟨kd [rd 0 16 1 1 1 h17,rd 0 3 1 15 1 h17],?_⟩
 refine cw1 call264 (cyen f i j 0 d 0 p q d) h17 fun _ h19=>⟨kd [rd 0 3 1 15 1 h19],?_⟩
 refine cw1 call262 (qtask l k ((e.R.length:Int)-(((nums e.R 3).length:Nat):Int)) d om om om om) h19.c.t5 fun _ h22=>⟨kd [],?_⟩
 refine g0 ?_
 exact enR _ [] h22.c.b.c.t5
theorem ut15_13_Left(d b:Nat)(e:List Sl2)(c:Nat)(hf0:0≤(b:Int)-1)(hf1:0≤ -(b:Int)+256):HQ 267 [pV d] [Cl d (pV c::iV b::fl eHo F256) 237,Tb c b e] (iV (((inS 0 e 0).length:Nat):Int)) [Cl d (pV c::iV b::fl eHo F256) 237,Tb c b e]:=by
 refine hiS func267 ntmps267 fun g w0 R h0=>g0<|cl1 call173 (ut1_1_valid d c b) h0 fun _ h11=> ?_
 have h12:=h11.a.t3
 refine go [rd 3 3 0 0 1 h11]<|cl1 call279 (sfree_ht c b e) h12 fun _ h14=>g0 ?_
 exact enR _ [] h14.a.t3
theorem ut15_14_room(m j p q e f:Nat)(s t:Int)(u:Nat)(o x y z B:Int)(k C D E:Nat)(l:Ts)(i:List Sl2)(hf0:0≤(((inS 0 i 0).length:Nat):Int)-1)(hf1:0≤(((inS 0 l.A 0).length:Nat):Int)-1)(hf2:0≤(e:Int)-1)(hf3:0≤ -(e:Int)+256)(hf4:0≤(f:Int)-1)(hf5:0≤o-1):HQ 201 [pV m,iV 0] [Cl m [pV j,pV p,pV q,iV e,iV f,iV s,iV t,iV u,iV o,iV x,iV y,iV z,uV B,pV k,pV C,pV D,pV E] 84,TW k 256 l,Ar0 j e f i] (iV 0) [Cl m [pV j,pV p,pV q,iV e,iV f,iV s,iV t,iV u,iV o,iV x,iV y,iV z,uV B,pV k,pV C,pV D,pV E] 84,TW k 256 l,Ar0 j e f i]:=by
 refine hiS func201 ntmps201 fun g w0 R h0=> ?_
 have h12:=h0.b.t4
 refine go [rd 1 4 0 0 1 h0]<|cP call265 (ast0_ht j e f i 0 om) h12 ?_
 rintro v K _ (⟨p10,c11,rfl,rfl⟩) h14
 have h15:=ap1 h14
 refine go [rd 4 8 1 0 1 h15]<|cP call266 (aheap0 j e f i) h15 ?_
 rintro v K _ (⟨h16,t17,rfl,rfl⟩) h19
 refine cl2 call267 (ut15_13_Left h16 e i t17 om om) ((ap3 h19).b.b.t6) fun _ h23=> ?_
 have h24:=h23.d.t6
 refine go [.v 4 11 (qeF (((inS 0 i 0).length:Nat):Int) 0),rd 4 17 3 13 1 h23]<|cl1 call268 (troom_w k 256 l) h24 fun _ h26=>go [.v 4 19 (qeF (((inS 0 l.A 0).length:Nat):Int) 0)] ?_
 exact enR _ [] (tk4 (sf3 (sf3 (sf3 (sf5 h26.c.a.d.t6)))))
theorem rgopen(b ar yc rq n m:Nat)(zz yy:Int)(q:Nat)(mq bt ba cp fi:Int)(tb wd qo lk:Nat)(x:Int)(L:List UInt8)(A:List Sl2)(s:Nat)(gn ec at_ nx:Int)(S:Ts)(W W2:Wst)(oz og:Int)(dk:Nat)(dg:Int)(S2:Ts)(tz:Int)(E E2:KlT)(hA:freeS A=some (s,gn))(hWE:acqE W 1 x=0)(hWO:acqO W 1 x=(1,oz,og))(hWS:acqS W 1 x=W2)(hTE:topE S (1,oz,og) L ((s:Int),gn)=0)(hTD:opnD S (1,oz,og) L ((s:Int),gn)=(1,(dk:Int),dg))(hTS:opnS S (1,oz,og) L ((s:Int),gn)=S2)(hG:gget E (1,oz,og)=none)(hGS:gset E (1,oz,og) (L, -1,0,0,2)=E2)(hf0:0≤(m:Int)-1)(hf1:0≤x)(hf2:0≤ -x+65535)(hf3:0≤(tagE L))(hf4:0≤ -(tagE L))(hf5:0≤mq-(S.R.length:Int)+(((nums S.R 3).length:Nat):Int)-1)(hf6:0≤(S.R.length:Int)-(((nums S.R 3).length:Nat):Int))(hf7:0≤ -(S.R.length:Int)+1999)(hf8:0≤(((inS 0 S.A 0).length:Nat):Int)-1)(hf9:0≤(((inS 0 A 0).length:Nat):Int)-1)(hf10:0≤ec)(hf11:0≤ -ec+1099511627776)(hf12:0≤ -(E.length:Int)+1999)(hf13:0≤oz)(hf14:0≤ -oz+63)(hf15:0≤og-1)(hf16:0≤ -og+4294967295)(hf17:0≤ -(dk:Int)+255)(hf18:0≤ -(s:Int)+255)(hf19:0≤(n:Int)-(s:Int)-1)(hf20:0≤ -(n:Int)+256)(hf21:0≤gn-1)(hf22:0≤dg)(hf23:0≤ -dg+4294967295):HQ 137 [pV b,iV 0,iV 1,iV x,.string (St L)] [Cl b [pV ar,pV yc,pV rq,iV n,iV m,iV zz,iV yy,iV q,iV mq,iV bt,iV ba,iV cp,uV fi,pV tb,pV wd,pV qo,pV lk] 84,Ar0 ar n m A,Cy yc n m 0 ec 0 at_ nx ec,Rq0 rq q 0,TW tb 256 S,Wd wd W,Cl qo [iV mq,.pointer none] 191,Rpo lk tz E] (.tuple #[.agg #[iV 1,iV dk,uV dg],iV 0]) [Cl b [pV ar,pV yc,pV rq,iV n,iV m,iV zz,iV yy,iV q,iV mq,iV bt,iV ba,iV cp,uV fi,pV tb,pV wd,pV qo,pV lk] 84,Ar2 ar n m (takeA A) s gn,Cy yc n m 0 ec 0 at_ nx ec,Rq1 rq q dk s gn,TW tb 256 S2,Wd wd W2,Cl qo [iV mq,.pointer none] 191,Rpo lk tz E2]:=by
 refine hiS func137 ntmps137 fun g w0 R h0=>g0<|nP 55 [pV b] h0 (fun r10 _ h12=> ?_)
 refine nP 9 [.string (St L)] h12 (fun r13 _ h15=> ?_)
 refine nP 39 [iV 0,iV 0,uV 0] h15 (fun r16 _ h18=> ?_)
 have h19:=h18.c.t12
 refine go [rd 1 0 2 0 1 h18]<|cl1 call198 (ut15_10_mutator b ar yc rq n m zz yy q mq bt ba cp fi tb wd qo lk om) h19 fun _ h21=>g0<|cl0 call199 (ut15_11_good x om om) h21 fun _ h23=>go [rd 6 0 2 0 1 h23]<|cl0 call131 (tagc0 L om om) h23 fun _ h25=> ?_
 have h26:=h25.i.h.x.c.t12
 refine go [rd 9 0 3 0 1 h25]<|cl4 call200 (ut15_12_ask b ar yc rq n m zz yy q mq bt ba cp fi tb wd qo lk ec at_ nx S om om om om) h26 fun _ h28=> ?_
 have h29:=h28.x.c.b.t12
 refine go [rd 12 0 6 0 1 h28]<|cl3 call201 (ut15_14_room b ar yc rq n m zz yy q mq bt ba cp fi tb wd qo lk S A om om om om om om) h29 fun _ h31=> ?_
 have h32:=h31.a.t12
 refine go [rd 12 5 7 0 1 h31,rd 12 8 0 13 1 h31]<|cl1 call54 (tlen_w tb 256 S) h32 fun _ h34=> ?_
 have h35:=h34.i.t12
 refine go [.v 12 10 (oF ((S.R.length:Int)≥2000)),rd 14 0 7 0 1 h34,rd 14 3 1 14 1 h34]<|cl1 call202 (wacq1 wd W x oz og W2 hWE hWO hWS) h35 fun _ h37=>g0<|nP 48 [iV 0,iV 0,uV 0] h37 (fun r38 _ h40=> ?_)
 refine sA [iV 1,iV oz,uV og] h40 fun _ h42=> ?_
 have h43:=h42.h.a.i.k.e.k.i.i.i.t13
 refine go [rd 17 0 9 0 1 h42]<|cP call203 (rghandle b ar yc rq n m zz yy q mq bt ba cp fi tb lk L A s gn ec ec at_ nx S oz og dk dg S2 tz E E2 r10 r38 r13 wd qo hA hTE hTD hTS hG hGS om om om om om om om om om om om om om om om) h43 ?_
 rintro v K w44 (⟨rfl,rfl⟩) h45
 have h46:sat g _ (Cl b [pV ar,pV yc,pV rq,iV n,iV m,iV zz,iV yy,iV q,iV mq,iV bt,iV ba,iV cp,uV fi,pV tb,pV wd,pV qo,pV lk] 84::_):=h45
 have h47:=h46.k.t13
 refine g0<|sA [iV 1,iV dk,uV dg] h47 fun _ h49=>g0 ?_
 exact enR (.tuple #[.agg #[iV 1,iV dk,uV dg],iV 0]) [rd 0 0 0 0 3 h49] (tk9 (sf8 (sf8 (sf8 (sf8 (sf8 (sf8 (sf8 (sf8 (sf12 h49.f.k.k.h.h.h.h.h.t13))))))))))
theorem rgack(b ar yc rq n m:Nat)(zz yy:Int)(q:Nat)(mq bt ba cp fi:Int)(tb wd qo lk:Nat)(A:List Sl2)(s:Nat)(gn ec bg:Int)(p j:Nat)(hf0:0≤(m:Int)-(j:Int)-1)(hf1:0≤2*(n:Int)-(p:Int)+3)(hf2:0≤(n:Int)-(s:Int)-1):HQ 135 [pV b,iV j] [Cl b [pV ar,pV yc,pV rq,iV n,iV m,iV zz,iV yy,iV q,iV mq,iV bt,iV ba,iV cp,uV fi,pV tb,pV wd,pV qo,pV lk] 84,GcC yc n m ec bg p j,GcA ar n m A s gn p] (iV (ackE p)) [Cl b [pV ar,pV yc,pV rq,iV n,iV m,iV zz,iV yy,iV q,iV mq,iV bt,iV ba,iV cp,uV fi,pV tb,pV wd,pV qo,pV lk] 84,GcC yc n m ec bg p (j+1),GcA ar n m A s gn p]:=by
 refine hiS func135 ntmps135 fun g w0 R h0=>g0<|cl1 call23 (ut15_6_valid b ar yc rq n m zz yy q mq bt ba cp fi tb wd qo lk) h0 fun _ h11=>g0<|dw (fls [0,1,2,3,4,5,6,7,8,9,10] (Tr.an 11 (fls [12,13,14,15,16] Tr.nil))) h11 fun _ h13=> ?_
 have h14:=h13.b.b.t4
 refine go [rd 3 4 0 1 1 h13,rd 3 9 0 0 1 h13]<|cw2 call197 (gc_ack yc ar n m A s gn ec bg p j om om om) h14 fun _ h16=>⟨kd [],?_⟩
 refine g0 ?_
 exact enR _ [] h16.b.t4
theorem ut19_1_in(a:Nat)(hf0:0≤(a:Int)-1)(hf1:0≤ -(a:Int)+10000):HQ 57 [iV a,iV 10000] [] (.bool true) []:=by
 refine hiS func57 ntmps57 fun g w0 R h0=>go [.v 1 1 (oT ((a:Int)≥1)),.v 1 5 (oT ((a:Int)≤10000))] ?_
 exact enR _ [] h0
theorem rgmark(b ar yc rq n m:Nat)(zz yy:Int)(q:Nat)(mq bt ba cp fi:Int)(tb wd qo lk:Nat)(A:List Sl2)(s:Nat)(gn ec bg:Int)(p j:Nat)(f:Int)(k:Nat)(hG:GOk n m p j)(hf0:0≤(k:Int)-1)(hf1:0≤ -(k:Int)+10000)(hf2:0≤(n:Int)-(s:Int)-1)(hf3:0≤ec)(hf4:0≤ -ec+1000000)(hf5:0≤(m:Int)-1)(hf6:0≤(q:Int)-1)(hf7:0≤gn-1):HQ 142 [pV b,iV k] [Cl b [pV ar,pV yc,pV rq,iV n,iV m,iV zz,iV yy,iV q,iV mq,iV bt,iV ba,iV cp,uV fi,pV tb,pV wd,pV qo,pV lk] 84,GcC yc n m ec bg p j,GcA ar n m A s gn p,Rq0 rq q f] (iV 0) [Cl b [pV ar,pV yc,pV rq,iV n,iV m,iV zz,iV yy,iV q,iV mq,iV bt,iV ba,iV cp,uV fi,pV tb,pV wd,pV qo,pV lk] 84,GcC yc n m ec bg ((mv n m k (p,j)).1) ((mv n m k (p,j)).2),GcA ar n m A s gn ((mv n m k (p,j)).1),Rq0 rq q f]:=by
 refine hiS func142 ntmps142 fun g w0 R h0=>g0<|cl1 call23 (ut15_6_valid b ar yc rq n m zz yy q mq bt ba cp fi tb wd qo lk) h0 fun _ h11=>g0<|cl0 call57 (ut19_1_in k om om) h11 fun _ h13=>g0 ?_
 refine lpS (fun mz_ a w=> ∃i:Nat,∃lr:Fr,mz_=k-i∧(i≤k)∧a=mk 52 (([(0,pV b),(16,iV k),(17,iV i)]:Fr)++lr)∧sat g w [Cl b [pV ar,pV yc,pV rq,iV n,iV m,iV zz,iV yy,iV q,iV mq,iV bt,iV ba,iV cp,uV fi,pV tb,pV wd,pV qo,pV lk] 84,GcC yc n m ec bg ((mv n m i (p,j)).1) ((mv n m i (p,j)).2),GcA ar n m A s gn ((mv n m i (p,j)).1),Rq0 rq q f,R]) (k-0) ⟨0,_,rfl,(Nat.zero_le _),(lvF [.k 0 (pV b),.k 16 (iV k),.o 17 (oJ .i64 0 (0:Int))]),h13⟩ ?_
 rintro m15 a16 w17 ⟨i,lr14,rfl,hi_,rfl,h18⟩
 refine ga<|go [.s 6 0] ?_
 by_cases c19:(i:Int)<(k:Int)
 ·
  refine go [.v 6 0 (oT _ c19)]<|dw (fls [0,1,2,3,4,5,6,7,8,9,10,11,12,13,14] (Tr.an2 15 (Tr.an2 16 (fls [17,18,19,20] (Tr.an 21 (Tr.an 22 (fls [23,24] Tr.nil)))) 21 (Tr.an 16 (fls [17,18,19,20] (Tr.an 22 (fls [23,24] Tr.nil))))) 21 (Tr.an 15 (Tr.an 16 (fls [17,18,19,20] (Tr.an 22 (fls [23,24] Tr.nil))))))) h18 fun _ h21=>go [rd 7 4 0 1 1 h21,rd 7 9 0 0 1 h21,rd 7 14 0 2 1 h21] ?_
  refine br2 ?_ ?_;rotate_left
  ·
   refine nG (fun q_=>pV q_) 203 [iV 0,uV 0] h21 (fun _ _ h78=>⟨kd [rd 0 14 1 2 1 h78,rd 0 9 1 0 1 h78,rd 0 4 1 1 1 h78],?_⟩)
   refine cw1 call214 (rqroom0 rq q f) h78.d.t6 fun _ h81=>⟨kd [rd 0 9 2 0 1 h81,rd 0 4 2 1 1 h81],?_⟩
   by_cases c82:(((mv n m i (p,j)).1:Nat):Int)=(s:Int)+3
   ·
    refine cw2 call213 (gc_stepF yc ar n m A s gn ec bg ((mv n m i (p,j)).1) ((mv n m i (p,j)).2) (q:Int) om om om om) h81.d.d.t6 fun _ h85=>⟨kd [],?_⟩
    have h86:=h85.c.t6
    refine g0<|sB [iV s,uV gn] h86 fun _ h88=>⟨kd [],?_⟩
    refine g0<|dw (fls [0,1,2,3,4,5] (Tr.an 6 Tr.nil)) h88 fun _ h90=> ?_
    have h91:=h90.c.t6
    refine go [rd 11 4 4 2 1 h90,rd 11 5 0 0 2 h90]<|cw1 call215 (rqfound0 rq q f s gn) h91 fun _ h93=>⟨kd [],?_⟩
    refine go [.v 12 0 (oIr ((i:Int)+1))] ?_
    refine enL ?_
    have h95:=tk5 h93.e.a.d.d.e.t6
    change ∃n',n'<_∧_
    refine⟨(k-(i+1)),by omega,(i+1),_,rfl,om,(lvF [.k 0 (pV b),.k 16 (iV k),.o 17 (oJ .i64 ((i:Int)+1) (((i+1):Nat):Int))]),h95⟩
   refine cw2 call213 (gc_stepN yc ar n m A s gn ec bg ((mv n m i (p,j)).1) ((mv n m i (p,j)).2) (q:Int) (mv_ok om hG i) om om om om om om) h81.d.d.t6 fun _ h98=>⟨kd [],?_⟩
   have h99:=h98.c.t6
   refine g0<|sB [iV 0,uV 0] h99 fun _ h101=>⟨kd [],?_⟩
   refine go [.v 12 0 (oIr ((i:Int)+1))] ?_
   refine enL ?_
   have h103:=tk5 h101.e.d.d.d.e.t6
   change ∃n',n'<_∧_
   refine⟨(k-(i+1)),by omega,(i+1),_,rfl,om,(lvF [.k 0 (pV b),.k 16 (iV k),.o 17 (oJ .i64 ((i:Int)+1) (((i+1):Nat):Int))]),h103⟩
  refine cw1 call214 (rqroom0 rq q f) h21.c.t5 fun _ h24=>⟨kd [rd 0 9 1 0 1 h24,rd 0 4 1 1 1 h24],?_⟩
  refine br2 ?_ ?_
  ·
   by_cases c25:(((mv n m i (p,j)).1:Nat):Int)=(s:Int)+3
   ·
    refine cw2 call213 (gc_stepF yc ar n m A s gn ec bg ((mv n m i (p,j)).1) ((mv n m i (p,j)).2) (q:Int) om om om om) h24.c.c.t5 fun _ h28=>⟨kd [],?_⟩
    refine g0<|nG (fun q_=>pV q_) 203 [iV 0,uV 0] h28 (fun _ _ h31=>⟨kd [],?_⟩)
    refine sB [iV s,uV gn] h31 fun _ h33=>⟨kd [],?_⟩
    refine g0<|dw (fls [0,1,2,3,4,5] (Tr.an 6 Tr.nil)) h33 fun _ h35=> ?_
    have h36:=h35.c.t6
    refine go [rd 11 4 4 2 1 h35,rd 11 5 0 0 2 h35]<|cw1 call215 (rqfound0 rq q f s gn) h36 fun _ h38=>⟨kd [],?_⟩
    refine go [.v 12 0 (oIr ((i:Int)+1))] ?_
    refine enL ?_
    have h40:=tk5 h38.e.a.d.d.e.t6
    change ∃n',n'<_∧_
    refine⟨(k-(i+1)),by omega,(i+1),_,rfl,om,(lvF [.k 0 (pV b),.k 16 (iV k),.o 17 (oJ .i64 ((i:Int)+1) (((i+1):Nat):Int))]),h40⟩
   refine cw2 call213 (gc_stepN yc ar n m A s gn ec bg ((mv n m i (p,j)).1) ((mv n m i (p,j)).2) (q:Int) (mv_ok om hG i) om om om om om om) h24.c.c.t5 fun _ h43=>⟨kd [],?_⟩
   refine g0<|nG (fun q_=>pV q_) 203 [iV 0,uV 0] h43 (fun _ _ h46=>⟨kd [],?_⟩)
   refine sB [iV 0,uV 0] h46 fun _ h48=>⟨kd [],?_⟩
   refine go [.v 12 0 (oIr ((i:Int)+1))] ?_
   refine enL ?_
   have h50:=tk5 h48.e.d.d.d.e.t6
   change ∃n',n'<_∧_
   refine⟨(k-(i+1)),by omega,(i+1),_,rfl,om,(lvF [.k 0 (pV b),.k 16 (iV k),.o 17 (oJ .i64 ((i:Int)+1) (((i+1):Nat):Int))]),h50⟩
  refine nG (fun q_=>pV q_) 203 [iV 0,uV 0] h24 (fun _ _ h53=>⟨kd [rd 0 9 2 0 1 h53,rd 0 4 2 1 1 h53],?_⟩)
  by_cases c54:(((mv n m i (p,j)).1:Nat):Int)=(s:Int)+3
  ·
   refine cw2 call213 (gc_stepF yc ar n m A s gn ec bg ((mv n m i (p,j)).1) ((mv n m i (p,j)).2) (q:Int) om om om om) h53.d.d.t6 fun _ h57=>⟨kd [],?_⟩
   have h58:=h57.b.t6
   refine g0<|sB [iV s,uV gn] h58 fun _ h60=>⟨kd [],?_⟩
   refine g0<|dw (fls [0,1,2,3,4,5] (Tr.an 6 Tr.nil)) h60 fun _ h62=> ?_
   have h63:=h62.c.t6
   refine go [rd 11 4 4 2 1 h62,rd 11 5 0 0 2 h62]<|cw1 call215 (rqfound0 rq q f s gn) h63 fun _ h65=>⟨kd [],?_⟩
   refine go [.v 12 0 (oIr ((i:Int)+1))] ?_
   refine enL ?_
   have h67:=tk5 h65.e.a.d.d.e.t6
   change ∃n',n'<_∧_
   refine⟨(k-(i+1)),by omega,(i+1),_,rfl,om,(lvF [.k 0 (pV b),.k 16 (iV k),.o 17 (oJ .i64 ((i:Int)+1) (((i+1):Nat):Int))]),h67⟩
  refine cw2 call213 (gc_stepN yc ar n m A s gn ec bg ((mv n m i (p,j)).1) ((mv n m i (p,j)).2) (q:Int) (mv_ok om hG i) om om om om om om) h53.d.d.t6 fun _ h70=>⟨kd [],?_⟩
  have h71:=h70.b.t6
  refine g0<|sB [iV 0,uV 0] h71 fun _ h73=>⟨kd [],?_⟩
  refine go [.v 12 0 (oIr ((i:Int)+1))] ?_
  refine enL ?_
  have h75:=tk5 h73.e.d.d.d.e.t6
  change ∃n',n'<_∧_
  refine⟨(k-(i+1)),by omega,(i+1),_,rfl,om,(lvF [.k 0 (pV b),.k 16 (iV k),.o 17 (oJ .i64 ((i:Int)+1) (((i+1):Nat):Int))]),h75⟩
 refine go [.v 6 0 (oF _ c19)]<|up<|g0 ?_
 obtain rfl:i=k:=by omega
 exact enR _ [] h18
theorem rchk1(oz og:Int)(L:List UInt8)(hf0:0≤oz)(hf1:0≤ -oz+63)(hf2:0≤og-1)(hf3:0≤ -og+4294967295)(hf4:0≤(tagE L))(hf5:0≤ -(tagE L)):HQ 352 [.agg #[iV 1,iV oz,uV og,iV 1,iV 0,iV 0,iV 0,.string (St L)]] [] (iV 0) []:=by
 have h:=rchk_ht 1 oz og 1 0 0 0 L om om (by have:=tagE_len (show tagE L=0 by omega);omega)
 rw[show resE 1 oz og 1 0 0 0 L=0 from (if_pos (by unfold posP;omega)).trans om] at h
 exact h
theorem ut16_1_Mutate4(m o k b p q e f:Nat)(s t:Int)(u:Nat)(x y z A B:Int)(C D E F:Nat)(l:List Sl2)(i:Nat)(j:Int):HQ 99 [pV m,pV o] [Cl k [pV b,pV p,pV q,iV e,iV f,iV s,iV t,iV u,iV x,iV y,iV z,iV A,uV B,pV C,pV D,pV E,pV F] 84,Cl o [iV 4,iV 0,iV 0,iV 0,iV 0,.string (St [])] 37,Cl m [pV k] 55,Ar2 b e f l i j] (iV 0) [Cl k [pV b,pV p,pV q,iV e,iV f,iV s,iV t,iV u,iV x,iV y,iV z,iV A,uV B,pV C,pV D,pV E,pV F] 84,Cl o [iV 4,iV 0,iV 0,iV 0,iV 0,.string (St [])] 37,Cl m [pV k] 55,Ar1 b e f l i j]:=by
 refine hiS func99 ntmps99 fun g w0 R h0=>g0<|dw (fls [0,1,2,3,4,5,6,7,8] (Tr.an2 9 (fls [10,11,12] (Tr.an 13 (Tr.an 14 (Tr.fl 15 Tr.nil)))) 13 (Tr.an 9 (fls [10,11,12] (Tr.an 14 (Tr.fl 15 Tr.nil)))))) h0 fun _ h11=>go [rd 1 0 2 0 1 h11,rd 1 4 0 0 1 h11,rd 1 6 1 1 1 h11,rd 1 8 1 2 1 h11] ?_
 refine br2 ?_ ?_
 ·
  refine cw1 call100 (adrop_ht b e f l i j) h11.c.t5 fun _ h14=>⟨kd [],?_⟩
  refine g0<|nG (fun q_=>pV q_) 203 [iV 0,uV 0] h14 (fun _ _ h17=>⟨kd [],?_⟩)
  refine sB [iV i,uV j] h17 fun _ h19=>⟨kd [],?_⟩
  refine g0 ?_
  exact enR _ [] (tk5 (sf4 (sf4 (sf4 (sf4 (sf5 h19.a.d.d.d.t6))))))
 refine nG (fun q_=>pV q_) 203 [iV 0,uV 0] h11 (fun _ _ h24=>⟨kd [rd 0 8 2 2 1 h24,rd 0 6 2 1 1 h24,rd 0 4 1 0 1 h24,rd 0 0 3 0 1 h24],?_⟩)
 refine cw1 call100 (adrop_ht b e f l i j) h24.d.t6 fun _ h27=>⟨kd [],?_⟩
 have h28:=h27.a.t6
 refine g0<|sB [iV i,uV j] h28 fun _ h30=>⟨kd [],?_⟩
 refine g0 ?_
 exact enR _ [] (tk5 (sf4 (sf4 (sf4 (sf4 (sf5 h30.a.d.d.d.t6))))))
theorem rgdrop(b ar yc rq n m:Nat)(zz yy:Int)(q:Nat)(mq bt ba cp fi:Int)(tb wd qo lk:Nat)(A:List Sl2)(s:Nat)(gn:Int)(hf0:0≤(m:Int)-1):HQ 38 [pV b,.agg #[iV 4,iV 0,iV 0,iV 0,iV 0,.string (St [])]] [Cl b [pV ar,pV yc,pV rq,iV n,iV m,iV zz,iV yy,iV q,iV mq,iV bt,iV ba,iV cp,uV fi,pV tb,pV wd,pV qo,pV lk] 84,Ar2 ar n m A s gn] (iV 0) [Cl b [pV ar,pV yc,pV rq,iV n,iV m,iV zz,iV yy,iV q,iV mq,iV bt,iV ba,iV cp,uV fi,pV tb,pV wd,pV qo,pV lk] 84,Ar1 ar n m A s gn]:=by
 refine hiS func38 ntmps38 fun g w0 R h0=>g0<|nP 55 [pV b] h0 (fun r10 _ h12=> ?_)
 refine nP 37 [iV 4,iV 0,iV 0,iV 0,iV 0,.string (St [])] h12 (fun r13 _ h15=> ?_)
 have h16:=h15.b.t5
 refine go [rd 1 0 1 0 1 h15]<|cl1 call23 (ut15_6_valid b ar yc rq n m zz yy q mq bt ba cp fi tb wd qo lk) h16 fun _ h18=>g0<|nP 215 [Value.nilFunc,Value.nilFunc,Value.nilFunc,Value.nilFunc,Value.nilFunc,Value.nilFunc,Value.nilFunc] h18 (fun r19 _ h21=> ?_)
 refine sA [Value.nilFunc,.func (Fn.func 90) #[] #[pV r10,pV r13],.func (Fn.func 94) #[] #[pV r10,pV r13],.func (Fn.func 96) #[] #[pV r10,pV r13],.func (Fn.func 99) #[] #[pV r10,pV r13],.func (Fn.func 101) #[] #[pV r10,pV r13],.func (Fn.func 103) #[] #[pV r10,pV r13]] h21 fun _ h23=>go [rd 4 1 2 0 1 h23,rd 4 5 2 0 1 h23,rd 6 1 2 0 1 h23,.s 6 2]<|lwP (.pointer (some ⟨r19,4,none⟩)) (law_indexArr (x:=Ot 5) (i:=Ot 25) (b:=r19) (off:=0) (z:=4) kr underlying215 1 kr 4 kr kr om om 4 om _) ?_
 have h24:=h23.d.d.d.d.t6
 refine go [rd 6 3 0 4 1 h23]<|cl4 call99 (ut16_1_Mutate4 r10 r13 b ar yc rq n m zz yy q mq bt ba cp fi tb wd qo lk A s gn) h24 fun _ h26=>g0 ?_
 exact enR _ [] (tk3 (sf2 (sf2 (sf5 h26.c.a.t6))))
theorem rgcyc(b ar yc rq n m:Nat)(zz yy:Int)(q:Nat)(mq bt ba cp fi:Int)(tb wd qo lk:Nat)(ec sn at_ nx bg:Int)(hf0:0≤bg)(hf1:0≤ -bg+1000000):HQ 145 [pV b] [Cl b [pV ar,pV yc,pV rq,iV n,iV m,iV zz,iV yy,iV q,iV mq,iV bt,iV ba,iV cp,uV fi,pV tb,pV wd,pV qo,pV lk] 84,Cy yc n m 0 ec sn at_ nx bg] (iV 0) [Cl b [pV ar,pV yc,pV rq,iV n,iV m,iV zz,iV yy,iV q,iV mq,iV bt,iV ba,iV cp,uV fi,pV tb,pV wd,pV qo,pV lk] 84,Cy yc n m 1 ec 0 at_ nx (bg+1)]:=by
 refine hiS func145 ntmps145 fun g w0 R h0=>g0<|cl1 call23 (ut15_6_valid b ar yc rq n m zz yy q mq bt ba cp fi tb wd qo lk) h0 fun _ h11=> ?_
 have h12:=h11.a.t3
 refine go [rd 3 4 0 1 1 h11]<|cl1 call226 (cyask yc n m ec sn at_ nx bg om om) h12 fun _ h14=>g0 ?_
 exact enR _ [] h14.a.t3
theorem ut16_2_checked(b c:Int)(d:List UInt8)(hf0:0≤b)(hf1:0≤ -b+63)(hf2:0≤c-1)(hf3:0≤ -c+4294967295)(hf4:0≤(tagE d))(hf5:0≤ -(tagE d)):HQ 386 [.agg #[iV 1,iV b,uV c,iV 1,iV 0,iV 0,iV 0,.string (St d)],.bool true,iV 1] [] (iV 0) []:=by
 refine hiS func386 ntmps386 fun g w0 R h0=>g0<|nP 226 [iV 1,iV b,uV c,iV 1,iV 0,iV 0,iV 0,.string (St d)] h0 (fun _ _ h12=> ?_)
 refine go [rd 1 0 0 0 8 h12]<|cl0 call352 (rchk1 b c d om om om om om om) h12 fun _ h14=>go [rd 6 1 0 3 1 h14] ?_
 exact enR _ [] h14.a.t1
theorem ut16_3_Close(c d:Int)(e:List UInt8)(hf0:0≤(tagE e))(hf1:0≤ -(tagE e))(hf2:0≤c)(hf3:0≤ -c+63)(hf4:0≤d-1)(hf5:0≤ -d+4294967295):HQ 315 [.agg #[iV 1,iV c,uV d,iV 1,iV 0,iV 0,iV 0,.string (St e)],iV 1,iV 0] [] (.tuple #[.agg #[iV 1,iV c,uV d,iV 2,iV 1,iV 0,iV 0,.string (St e)],iV 0]) []:=by
 refine hiS func315 ntmps315 fun g w0 R h0=>g0<|nP 226 [iV 1,iV c,uV d,iV 1,iV 0,iV 0,iV 0,.string (St e)] h0 (fun _ _ h12=> ?_)
 refine nP 226 [iV 0,iV 0,uV 0,iV 0,iV 0,iV 0,iV 0,.string (St [])] h12 (fun _ _ h15=> ?_)
 refine g0<|dw (fls [0,1] (Tr.an 2 (fls [3,4] (Tr.an 5 (Tr.fl 6 (Tr.an 7 (Tr.fl 8 Tr.nil))))))) h15 fun _ h17=>go [rd 1 0 1 0 8 h17]<|cw0 call387 (in_t 1 1 3 om) h17 fun _ h19=>⟨kd [rd 0 0 1 0 8 h19],?_⟩
 refine g0<|cw0 call388 (time_t 0 om) h19 fun _ h21=>⟨kd [rd 0 0 1 0 8 h21],?_⟩
 refine g0<|cw0 call386 (ut16_2_checked c d e om om om om om om) h21 fun _ h23=>⟨kd [],?_⟩
 have h24:=h23.a.t3
 refine g0<|sP [(3,iV 2)] [iV 1,iV c,uV d,iV 2,iV 0,iV 0,iV 0,.string (St e)] h24 fun _ h26=>g0<|sP [(4,iV 1)] [iV 1,iV c,uV d,iV 2,iV 1,iV 0,iV 0,.string (St e)] h26 fun _ h28=>g0<|sP [(6,iV 0)] [iV 1,iV c,uV d,iV 2,iV 1,iV 0,iV 0,.string (St e)] h28 fun _ h30=> ?_
 have h31:=h30.a.t3
 refine go [rd 5 0 0 0 8 h30]<|sA [iV 1,iV c,uV d,iV 2,iV 1,iV 0,iV 0,.string (St e)] h31 fun _ h33=>g0 ?_
 exact enR _ [rd 0 0 0 0 8 h33] h33.b.t1
theorem rgrel1(b ar yc rq n m:Nat)(zz yy:Int)(q:Nat)(mq bt ba cp fi:Int)(tb wd qo lk:Nat)(L:List UInt8)(S2 S3:Ts)(W:Wst)(oz og nz:Int)(hG:getR S2 nz=⟨(1,oz,og),1,0,0,0,L⟩)(hE:nE S2 nz=0)(hX:setE S2 nz ⟨(1,oz,og),2,1,0,0,L⟩=0)(hY:setS S2 nz ⟨(1,oz,og),2,1,0,0,L⟩=S3)(hW:W.now=0)(hf0:0≤oz)(hf1:0≤ -oz+63)(hf2:0≤og-1)(hf3:0≤ -og+4294967295)(hf4:0≤(tagE L))(hf5:0≤ -(tagE L)):HQ 225 [pV b,iV nz,iV 1] [Cl b [pV ar,pV yc,pV rq,iV n,iV m,iV zz,iV yy,iV q,iV mq,iV bt,iV ba,iV cp,uV fi,pV tb,pV wd,pV qo,pV lk] 84,TW tb 256 S2,Wd wd W] (.tuple #[]) [Cl b [pV ar,pV yc,pV rq,iV n,iV m,iV zz,iV yy,iV q,iV mq,iV bt,iV ba,iV cp,uV fi,pV tb,pV wd,pV qo,pV lk] 84,TW tb 256 S3,Wd wd W]:=by
 refine hiS func225 ntmps225 fun g w0 R h0=> ?_
 have h10:=h0.a.t4
 refine go [rd 0 3 0 13 1 h0]<|cl1 call210 (tget1 tb 256 S2 nz oz og L hG hE) h10 fun _ h12=>g0<|nP 226 [iV 0,iV 0,uV 0,iV 0,iV 0,iV 0,iV 0,.string (St [])] h12 (fun _ _ h15=> ?_)
 refine sA [iV 1,iV oz,uV og,iV 1,iV 0,iV 0,iV 0,.string (St L)] h15 fun _ h17=>g0<|dw (fls [0,1,2,3,4,5] (Tr.an2 6 (Tr.an2 7 (fls [8,9,10] (Tr.an 11 (Tr.an 12 (Tr.fl 13 Tr.nil)))) 11 (Tr.an 7 (fls [8,9,10] (Tr.an 12 (Tr.fl 13 Tr.nil))))) 11 (Tr.an 6 (Tr.an 7 (fls [8,9,10] (Tr.an 12 (Tr.fl 13 Tr.nil))))))) h17 fun _ h19=>go [rd 1 0 0 0 8 h19,rd 1 5 2 14 1 h19] ?_
 refine br2 ?_ ?_
 ·
  refine cw1 call301 (wnow0 wd W hW) h19.c.t5 fun _ h22=>⟨kd [rd 0 0 1 0 8 h22],?_⟩
  refine br2 ?_ ?_
  ·
   refine cw0 call315 (ut16_3_Close oz og L om om om om om om) h22 fun _ h24=>⟨kd [],?_⟩
   refine g0<|nG (fun q_=>pV q_) 226 [iV 0,iV 0,uV 0,iV 0,iV 0,iV 0,iV 0,.string (St [])] h24 (fun _ _ h27=>⟨kd [],?_⟩)
   refine sB [iV 1,iV oz,uV og,iV 2,iV 1,iV 0,iV 0,.string (St L)] h27 fun _ h29=>⟨kd [],?_⟩
   refine g0<|dw (fls [0,1,2,3,4,5] (Tr.an 6 Tr.nil)) h29 fun _ h31=> ?_
   have h32:=h31.c.t6
   refine go [rd 3 3 4 13 1 h31,rd 3 5 0 0 8 h31]<|cw1 call316 (tset1 tb 256 S2 nz oz og 1 L S3 hX hY om om om om) h32 fun _ h34=>⟨kd [],?_⟩
   refine g0 ?_
   exact enR _ [] (tk4 (sf3 (sf3 (sf3 (sf5 h34.b.a.d.t6)))))
  refine nG (fun q_=>pV q_) 226 [iV 0,iV 0,uV 0,iV 0,iV 0,iV 0,iV 0,.string (St [])] h22 (fun _ _ h39=>⟨kd [rd 0 0 2 0 8 h39],?_⟩)
  refine cw0 call315 (ut16_3_Close oz og L om om om om om om) h39 fun _ h41=>⟨kd [],?_⟩
  refine g0<|sB [iV 1,iV oz,uV og,iV 2,iV 1,iV 0,iV 0,.string (St L)] h41 fun _ h43=>⟨kd [],?_⟩
  refine g0<|dw (fls [0,1,2,3,4,5] (Tr.an 6 Tr.nil)) h43 fun _ h45=> ?_
  have h46:=h45.c.t6
  refine go [rd 3 3 4 13 1 h45,rd 3 5 0 0 8 h45]<|cw1 call316 (tset1 tb 256 S2 nz oz og 1 L S3 hX hY om om om om) h46 fun _ h48=>⟨kd [],?_⟩
  refine g0 ?_
  exact enR _ [] (tk4 (sf3 (sf3 (sf3 (sf5 h48.b.a.d.t6)))))
 refine nG (fun q_=>pV q_) 226 [iV 0,iV 0,uV 0,iV 0,iV 0,iV 0,iV 0,.string (St [])] h19 (fun _ _ h53=>⟨kd [rd 0 5 3 14 1 h53,rd 0 0 1 0 8 h53],?_⟩)
 refine cw1 call301 (wnow0 wd W hW) h53.d.t6 fun _ h56=>⟨kd [rd 0 0 2 0 8 h56],?_⟩
 refine cw0 call315 (ut16_3_Close oz og L om om om om om om) h56 fun _ h58=>⟨kd [],?_⟩
 have h59:=h58.a.t6
 refine g0<|sB [iV 1,iV oz,uV og,iV 2,iV 1,iV 0,iV 0,.string (St L)] h59 fun _ h61=>⟨kd [],?_⟩
 refine g0<|dw (fls [0,1,2,3,4,5] (Tr.an 6 Tr.nil)) h61 fun _ h63=> ?_
 have h64:=h63.c.t6
 refine go [rd 3 3 4 13 1 h63,rd 3 5 0 0 8 h63]<|cw1 call316 (tset1 tb 256 S2 nz oz og 1 L S3 hX hY om om om om) h64 fun _ h66=>⟨kd [],?_⟩
 refine g0 ?_
 exact enR _ [] (tk4 (sf3 (sf3 (sf3 (sf5 h66.b.a.d.t6)))))
theorem ut16_5_find(i d:Nat)(c:Int)(j k l m o:Nat)(p q:Int)(s:Nat)(t u x y z:Int)(e A B C:Nat)(f:Ts)(D:Int)(E:fndE f (1,(d:Int),c)=0)(F:(fndX f (1,(d:Int),c)).num=D)(hf0:0≤ -(d:Int)+255)(hf1:0≤c-1)(hf2:0≤ -c+4294967295):HQ 207 [pV i,.agg #[iV 1,iV d,uV c]] [Cl i [pV j,pV k,pV l,iV m,iV o,iV p,iV q,iV s,iV t,iV u,iV x,iV y,uV z,pV e,pV A,pV B,pV C] 84,TW e 256 f] (.tuple #[iV D,iV 0]) [Cl i [pV j,pV k,pV l,iV m,iV o,iV p,iV q,iV s,iV t,iV u,iV x,iV y,uV z,pV e,pV A,pV B,pV C] 84,TW e 256 f]:=by
 refine hiS func207 ntmps207 fun g w0 R h0=>g0<|nP 39 [iV 1,iV d,uV c] h0 (fun _ _ h12=> ?_)
 have h13:=h12.a.t4
 refine g0<|cl1 call23 (ut15_6_valid i j k l m o p q s t u x y z e A B C) h13 fun _ h15=>go [rd 3 0 1 0 3 h15]<|cl0 call281 (cdesc_ok 1 (d:Int) c om om om) h15 fun _ h17=>g0<|dw (fls [0,1,2,3,4] (Tr.an 5 (fls [6,7,8,9] Tr.nil))) h17 fun _ h19=> ?_
 have h20:=h19.b.t4
 refine go [rd 6 3 0 13 1 h19,rd 6 4 1 0 3 h19]<|cw1 call282 (tfnd0 e 256 f (d:Int) c D E F om om) h20 fun _ h22=>⟨kd [],?_⟩
 refine g0 ?_
 exact enR _ [] (tk3 (sf2 (sf2 (sf3 h22.a.t4))))
theorem ut16_6_remove(u e:Nat)(f:Int)(y z k A B:Nat)(C D:Int)(l:Nat)(E F G H I:Int)(m t J L:Nat)(o:Ts)(N:Nat)(O:Int)(x:Wst)(i:Int)(j:Ts)(p q:Int)(s:List UInt8)(M:Ts)(P:fndE o (1,(e:Int),f)=0)(Q:(fndX o (1,(e:Int),f)).num=i)(S:clsL o (1,(e:Int),f)=true)(T:clsS o (1,(e:Int),f)=j)(U:getR j i=⟨(1,p,q),1,0,0,0,s⟩)(V:nE j i=0)(W:setE j i ⟨(1,p,q),2,1,0,0,s⟩=0)(X:setS j i ⟨(1,p,q),2,1,0,0,s⟩=M)(Y:x.now=0)(hf0:0≤f)(hf1:0≤ -f+4294967295)(hf2:0≤p)(hf3:0≤ -p+63)(hf4:0≤q-1)(hf5:0≤ -q+4294967295)(hf6:0≤(tagE s))(hf7:0≤ -(tagE s)):HQ 212 [pV u,.agg #[iV 1,iV e,uV f],iV 1] [Cl u [pV y,pV z,pV k,iV A,iV B,iV C,iV D,iV l,iV E,iV F,iV G,iV H,uV I,pV m,pV t,pV J,pV L] 84,TW m 256 o,Rq1 k l e N O,Wd t x] (iV 0) [Cl u [pV y,pV z,pV k,iV A,iV B,iV C,iV D,iV l,iV E,iV F,iV G,iV H,uV I,pV m,pV t,pV J,pV L] 84,TW m 256 M,Rq0 k l 0,Wd t x]:=by
 refine hiS func212 ntmps212 fun g w0 R h0=>g0<|nP 39 [iV 1,iV e,uV f] h0 (fun _ _ h12=> ?_)
 refine g0<|dw (fls [0,1,2,3,4,5,6] (Tr.an 7 Tr.nil)) h12 fun _ h14=> ?_
 have h15:=h14.c.t6
 refine go [rd 1 4 1 2 1 h14,rd 1 6 0 1 1 h14]<|cw1 call224 (rqcan1 k l e N O) h15 fun _ h17=>⟨kd [],?_⟩
 refine g0<|dw (fls [0,1,2,3,4] (Tr.an 5 (fls [6,7,8,9,10,11,12] Tr.nil))) h17 fun _ h19=> ?_
 have h20:=h19.c.t6
 refine go [rd 2 3 2 13 1 h19,rd 2 4 1 0 3 h19]<|cw1 call288 (tcls1 m 256 o (e:Int) f i j P Q S T om om) h20 fun _ h22=>⟨kd [],?_⟩
 have h23:=h22.d.a.d.t6
 refine g0<|cl3 call225 (rgrel1 u y z k A B C D l E F G H I m t J L s j M x p q i U V W X Y om om om om om om) h23 fun _ h25=>g0 ?_
 exact enR _ [] (tk5 (sf4 (sf4 (sf4 (sf4 (sf5 h25.c.b.b.t6))))))
theorem rgcls1(b ar yc rq n m:Nat)(zz yy:Int)(q:Nat)(mq bt ba cp fi:Int)(tb wd qo lk:Nat)(L:List UInt8)(S S2 S3:Ts)(W:Wst)(oz og nz:Int)(dk:Nat)(dg:Int)(s:Nat)(gn:Int)(hF:fndE S (1,(dk:Int),dg)=0)(hN:(fndX S (1,(dk:Int),dg)).num=nz)(hL:clsL S (1,(dk:Int),dg)=true)(hS:clsS S (1,(dk:Int),dg)=S2)(hG:getR S2 nz=⟨(1,oz,og),1,0,0,0,L⟩)(hE:nE S2 nz=0)(hX:setE S2 nz ⟨(1,oz,og),2,1,0,0,L⟩=0)(hY:setS S2 nz ⟨(1,oz,og),2,1,0,0,L⟩=S3)(hW:W.now=0)(hf0:0≤dg-1)(hf1:0≤ -dg+4294967295)(hf2:0≤ -(dk:Int)+255)(hf3:0≤oz)(hf4:0≤ -oz+63)(hf5:0≤og-1)(hf6:0≤ -og+4294967295)(hf7:0≤(tagE L))(hf8:0≤ -(tagE L)):HQ 141 [pV b,.agg #[iV 1,iV dk,uV dg]] [Cl b [pV ar,pV yc,pV rq,iV n,iV m,iV zz,iV yy,iV q,iV mq,iV bt,iV ba,iV cp,uV fi,pV tb,pV wd,pV qo,pV lk] 84,Rq1 rq q dk s gn,TW tb 256 S,Wd wd W] (iV 0) [Cl b [pV ar,pV yc,pV rq,iV n,iV m,iV zz,iV yy,iV q,iV mq,iV bt,iV ba,iV cp,uV fi,pV tb,pV wd,pV qo,pV lk] 84,Rq0 rq q 0,TW tb 256 S3,Wd wd W]:=by
 refine hiS func141 ntmps141 fun g w0 R h0=>g0<|nP 39 [iV 1,iV dk,uV dg] h0 (fun _ _ h12=> ?_)
 have h13:=h12.c.b.t6
 refine go [rd 1 1 0 0 3 h12]<|cl2 call207 (ut16_5_find b dk dg ar yc rq n m zz yy q mq bt ba cp fi tb wd qo lk S nz hF hN om om om) h13 fun _ h15=> ?_
 have h16:=h15.d.d.c.c.t6
 refine go [rd 4 1 2 0 3 h15]<|cl4 call212 (ut16_6_remove b dk dg ar yc rq n m zz yy q mq bt ba cp fi tb wd qo lk S s gn W nz S2 oz og L S3 hF hN hL hS hG hE hX hY hW om om om om om om om om) h16 fun _ h18=>g0 ?_
 exact enR _ [] (tk5 (sf4 (sf4 (sf4 (sf4 (sf5 h18.b.a.t6))))))
theorem ut16_9_find(f d:Nat)(c:Int)(j k l m o:Nat)(p q:Int)(s:Nat)(t u x y z:Int)(e A B C:Nat)(i:Ts)(D:fndE i (1,(d:Int),c)=7)(hf0:0≤ -(d:Int)+255)(hf1:0≤c-1)(hf2:0≤ -c+4294967295):HQ 207 [pV f,.agg #[iV 1,iV d,uV c]] [Cl f [pV j,pV k,pV l,iV m,iV o,iV p,iV q,iV s,iV t,iV u,iV x,iV y,uV z,pV e,pV A,pV B,pV C] 84,TW e 256 i] (.tuple #[iV 0,iV 7]) [Cl f [pV j,pV k,pV l,iV m,iV o,iV p,iV q,iV s,iV t,iV u,iV x,iV y,uV z,pV e,pV A,pV B,pV C] 84,TW e 256 i]:=by
 refine hiS func207 ntmps207 fun g w0 R h0=>g0<|nP 39 [iV 1,iV d,uV c] h0 (fun _ _ h12=> ?_)
 have h13:=h12.a.t4
 refine g0<|cl1 call23 (ut15_6_valid f j k l m o p q s t u x y z e A B C) h13 fun _ h15=>go [rd 3 0 1 0 3 h15]<|cl0 call281 (cdesc_ok 1 (d:Int) c om om om) h15 fun _ h17=>g0<|dw (fls [0,1,2,3,4] (Tr.an 5 (fls [6,7,8,9] Tr.nil))) h17 fun _ h19=> ?_
 have h20:=h19.b.t4
 refine go [rd 6 3 0 13 1 h19,rd 6 4 1 0 3 h19]<|cw1 call282 (tfnd7 e 256 i (d:Int) c D om om) h20 fun _ h22=>⟨kd [],?_⟩
 refine g0 ?_
 exact enR _ [] (tk3 (sf2 (sf2 (sf3 h22.a.t4))))
theorem gone0_it(r b ar yc rq n m:Nat)(zz yy:Int)(q:Nat)(mq bt ba cp fi:Int)(tb wd qo lk:Nat)(f:Int):IT prog 296 [pV r] 0 (fun _=> [.agg #[iV 0,iV 0,uV 0]]) [Cl r [pV b] 55,Cl b [pV ar,pV yc,pV rq,iV n,iV m,iV zz,iV yy,iV q,iV mq,iV bt,iV ba,iV cp,uV fi,pV tb,pV wd,pV qo,pV lk] 84,Rq0 rq q f]:=by
 refine itS func296 ntmps296 fun g w0 R k_ J_ E_ hY h0=> ?_
 have h10:sat g _ (J_ 0::_):=h0
 have h11:=h10.c.t5
 refine go [rd 0 0 1 0 1 h10,rd 0 4 2 2 1 h10]<|cl1 call297 (rqpoll0 rq q f) h11 fun _ h13=>g0<|unS 39<|g0<|up<|g0 ?_
 have h14:=h13.c.c.c.t5
 have he_:0=0:=rfl
 exact en (.tuple #[]) [] ⟨⟨_,rfl⟩,.inl (he_▸h14)⟩
theorem ut17_1_gone(a:Nat):HT prog 216 [pV a] [] (fun v K=> ∃r10:Nat,v= .func (Fn.func 296) #[] #[pV r10]∧K= [Cl r10 [pV a] 55]):=by
 refine hiS func216 ntmps216 fun g w0 R h0=>g0<|nP 55 [pV a] h0 (fun r10 _ h12=> ?_)
 refine g0 ?_
 exact en (.func (Fn.func 296) #[] #[pV r10]) [] ⟨_,_,rfl,⟨r10,rfl,rfl⟩,h12⟩
theorem rgbat10(b ar yc rq n m:Nat)(zz yy:Int)(q:Nat)(mq bt ba cp fi:Int)(tb wd qo lk:Nat)(f:Int)(S:Ts)(W:Wst)(tz:Int)(E:KlT)(S2:Ts)(W2:Wst)(E2:KlT)(nz oz og wy:Int)(L:List UInt8)(hd:dueB S W.now bt= [nz])(hr:RunOk (⟨bt,ba,cp⟩:Cf) W.now (S,W) [nz])(hp:runB (⟨bt,ba,cp⟩:Cf) W.now (S,W) [nz]=(S2,W2))(ha:atsB (⟨bt,ba,cp⟩:Cf) W.now (S,W) [nz]= [(⟨0,(1,oz,og),wy,1⟩:At)])(hG:gget E (1,oz,og)=some (L, -1,0,0,2))(hS:gset E (1,oz,og) (L,tz,0,wy,3)=E2)(hf0:0≤bt-1)(hf1:0≤ -bt+64)(hf2:0≤ba-1)(hf3:0≤cp-ba)(hf4:0≤ -cp+1048576)(hf5:0≤mq-1)(hf6:0≤oz)(hf7:0≤ -oz+63)(hf8:0≤og-1)(hf9:0≤ -og+4294967295)(hf10:0≤wy-1)(hf11:0≤ -wy+3)(hf12:0≤tz)(hf13:0≤ -tz+9999)(hf14:0≤(S2.R.length:Int)-(((nums S2.R 3).length:Nat):Int)):HT prog 143 [pV b] [Cl b [pV ar,pV yc,pV rq,iV n,iV m,iV zz,iV yy,iV q,iV mq,iV bt,iV ba,iV cp,uV fi,pV tb,pV wd,pV qo,pV lk] 84,Rq0 rq q f,TW tb 256 S,Wd wd W,Cl qo [iV mq,.pointer none] 191,Rpo lk tz E] (fun v K=> ∃p:Option Addr,∃c:Nat,v= .tuple #[.slice p 1 c,iV 0]∧K= [Cl b [pV ar,pV yc,pV rq,iV n,iV m,iV zz,iV yy,iV q,iV mq,iV bt,iV ba,iV cp,uV fi,pV tb,pV wd,pV qo,pV lk] 84,Rq0 rq q f,TW tb 256 S2,Wd wd W2,Cl qo [iV mq,.pointer none] 191,Rpo lk (tz+1) E2,Sl 50 6 p 1 c (fl eAt [(⟨0,(1,oz,og),wy,1⟩:At)])]):=by
 refine hiS func143 ntmps143 fun g w0 R h0=>g0<|nP 55 [pV b] h0 (fun r10 _ h12=> ?_)
 have h13:=h12.a.t8
 refine go [rd 1 0 0 0 1 h12]<|cl1 call23 (ut15_6_valid b ar yc rq n m zz yy q mq bt ba cp fi tb wd qo lk) h13 fun _ h15=>go [rd 3 0 1 0 1 h15]<|cP call216 (ut17_1_gone b) h15 ?_
 rintro v K _ (⟨r16,rfl,rfl⟩) h18
 have h20:=(ap1 h18).c.b.b.t9
 refine g0 ?_
 refine rfS2 (N:=0) (fun i rb_=>([(4,pV rb_),(14,.agg #[iV 0,iV 0,uV 0])]:Fr)) (fun i rb_ K=>K= [Cl rb_ [iV 0,iV 0,uV 0] 39]) (fun i K=>K= []) (fun c _ K=>False) call296 (gone0_it r16 b ar yc rq n m zz yy q mq bt ba cp fi tb wd qo lk f) rfl h20 ?_ ?_ ?_ ?_
 ·
  intro i_ hi_;exact absurd hi_ (Nat.not_lt_zero _)
 · intro i_ hi_;exact absurd hi_ (Nat.not_lt_zero _)
 ·
  rintro D23 w24 K_ ⟨rfl⟩ h25
  have h26:sat g _ (pt D23 (Obj.deferred (some []))::_):=h25
  refine g0<|dw (fls [0,1,2,3,4,5,6,7,8,9,10,11] (Tr.an 12 (fls [13,14,15,16,17] Tr.nil))) h26 fun _ h28=> ?_
  have h31:=h28.f.f.t10
  refine go [rd 6 0 4 0 1 h28,rd 6 3 2 13 1 h28,rd 6 4 4 0 1 h28,rd 6 7 2 14 1 h28,rd 6 8 4 0 1 h28,rd 6 11 2 3 10 h28]<|cG call217 (brun1 tb 256 wd S W (n:Int) (m:Int) zz yy (q:Int) mq bt ba cp fi nz oz og wy S2 W2 hd hr hp ha om om om om om) h31 ?_
  rintro v K _ (⟨p29,c30,rfl,rfl⟩) h33
  have h34:=ap3 h33
  refine⟨kd [],?_⟩
  refine go [.v 7 1 (oJ .i64 (1:Int) 1)]<|unS 39 ?_
  obtain⟨b35,hp36⟩:=sl_ptr0 (j:=2) h34 rfl om
  refine go [.s 9 0]<|lwP (pV b35) (liP (Ot 34) (Ot 36) p29 b35 0 0 1 c30 underlying44 6 0 hp36 0) ?_
  have h37:=h34.b.t11
  have hl38:=fl_n eAt_ok dc h37
  refine go [.r 9 1 b35 0 [iV 0,iV 1,iV oz,uV og,iV wy,iV 1] ⟨gvc 0 h37 rfl hp36 eAt_ok 0 (iV 0) (show ([(⟨0,(1,oz,og),wy,1⟩:At)]:List At)[0]? =some (⟨0,(1,oz,og),wy,1⟩:At) from rfl) 0,gvc 0 h37 rfl hp36 eAt_ok 1 (iV 1) (show ([(⟨0,(1,oz,og),wy,1⟩:At)]:List At)[0]? =some (⟨0,(1,oz,og),wy,1⟩:At) from rfl) 1,gvc 0 h37 rfl hp36 eAt_ok 2 (iV oz) (show ([(⟨0,(1,oz,og),wy,1⟩:At)]:List At)[0]? =some (⟨0,(1,oz,og),wy,1⟩:At) from rfl) 2,gvc 0 h37 rfl hp36 eAt_ok 3 (uV og) (show ([(⟨0,(1,oz,og),wy,1⟩:At)]:List At)[0]? =some (⟨0,(1,oz,og),wy,1⟩:At) from rfl) 3,gvc 0 h37 rfl hp36 eAt_ok 4 (iV wy) (show ([(⟨0,(1,oz,og),wy,1⟩:At)]:List At)[0]? =some (⟨0,(1,oz,og),wy,1⟩:At) from rfl) 4,gvc 0 h37 rfl hp36 eAt_ok 5 (iV 1) (show ([(⟨0,(1,oz,og),wy,1⟩:At)]:List At)[0]? =some (⟨0,(1,oz,og),wy,1⟩:At) from rfl) 5,trivial⟩]<|nP 50 [iV 0,iV 0,iV 0,uV 0,iV 0,iV 0] h37 (fun _ _ h41=> ?_)
  refine sA [iV 0,iV 1,iV oz,uV og,iV wy,iV 1] h41 fun _ h43=>g0<|dw (fls [0,1,2,3,4] (Tr.an 5 Tr.nil)) h43 fun _ h45=> ?_
  have h46:=h45.j.t12
  refine go [rd 10 0 8 0 1 h45,rd 10 3 6 16 1 h45,rd 10 4 0 0 6 h45]<|cw1 call218 (rptry lk tz E oz og wy L E2 hG hS om om om om om om om om) h46 fun _ h48=>⟨kd [],?_⟩
  refine g0<|unN<|g0<|up<|g0<|dw (fls [0,1,2,3,4] (Tr.an 5 (Tr.an 6 Tr.nil))) h48 fun _ h50=> ?_
  have h51:=h50.c.x.t12
  refine go [rd 12 0 9 0 1 h50,rd 12 3 7 15 1 h50,rd 12 4 9 0 1 h50]<|cw2 call220 (rgused b ar yc rq n m zz yy q mq bt ba cp fi tb wd qo lk S2) h51 fun _ h53=>⟨kd [rd 0 3 0 15 1 h53,rd 0 0 9 0 1 h53],?_⟩
  refine cw1 call219 (qtease qo mq ((S2.R.length:Int)-(((nums S2.R 3).length:Nat):Int)) om om) h53.j.t12 fun _ h56=>⟨kd [],?_⟩
  refine g0 ?_
  refine enD (.tuple #[.slice p29 1 c30,iV 0]) h56.x.t12 (fun _ _=> []) (fun _ h58=> ?_) [] []
  exact⟨_,_,rfl,⟨p29,c30,rfl,rfl⟩,(tk8 (sf7 (sf7 (sf7 (sf7 (sf7 (sf7 (sf7 (sf11 h58.f.e.c.x.f.i.x.t12)))))))))⟩
 intro _ _ _ _ _ _ hf_;exact hf_.elim
end Go.Proofs.YtcgkoffnknpgjaaGreatDoor
