/- Walks, printed by my generator q2.py. -/
import Derived.Test.YtehlamblpekmkaaGreatDoorBundle43
import Derived.Test.YtehlamblpekmkaaGreatDoorHq
import Derived.Test.YtehlamblpekmkaaGreatDoorSri
import Derived.Test.YtehlamblpekmkaaGreatDoorBundle40
namespace Go.Proofs.YtehlamblpekmkaaGreatDoor
open Tryz
set_option maxHeartbeats 4000000
def sortRenI:Go.Shelf.Ren:=⟨fun |6=>105|14=>184|15=>185|20=>229|21=>230|22=>231|23=>232|24=>233|25=>234|26=>235|27=>236|28=>237|29=>238|46=>271|47=>272|48=>273|49=>274|50=>275|57=>289|n=>n,fun |22=>37|24=>3|25=>192|3=>3|39=>272|0=>0|53=>22|55=>328|4=>4|46=>320|45=>319|50=>324|5=>5|9=>9|66=>354|70=>358|76=>377|77=>139|n=>n,fun n=>n⟩
theorem sortLayI:SlLaysF.n6 prog sortRenI where
 mixed:=by kernel_rfl
 f6:=⟨ "slices.SortFunc[[]int,int]",by decide,func105.trans (congrArg some kr)⟩
 f14:=⟨ "slices.pdqsortCmpFunc[int]",by decide,func184.trans (congrArg some kr)⟩
 f15:=func185.trans (congrArg some kr)
 f20:=⟨ "slices.insertionSortCmpFunc[int]",by decide,func229.trans (congrArg some kr)⟩
 f21:=⟨ "slices.heapSortCmpFunc[int]",by decide,func230.trans (congrArg some kr)⟩
 f22:=⟨ "slices.breakPatternsCmpFunc[int]",by decide,func231.trans (congrArg some kr)⟩
 f23:=⟨ "slices.choosePivotCmpFunc[int]",by decide,func232.trans (congrArg some kr)⟩
 f24:=⟨ "slices.reverseRangeCmpFunc[int]",by decide,func233.trans (congrArg some kr)⟩
 f25:=⟨ "slices.partialInsertionSortCmpFunc[int]",by decide,func234.trans (congrArg some kr)⟩
 f26:=⟨ "slices.partitionEqualCmpFunc[int]",by decide,func235.trans (congrArg some kr)⟩
 f27:=⟨ "slices.partitionCmpFunc[int]",by decide,func236.trans (congrArg some kr)⟩
 f28:=func237.trans (congrArg some kr)
 f29:=func238.trans (congrArg some kr)
 f46:=⟨ "slices.siftDownCmpFunc[int]",by decide,func271.trans (congrArg some kr)⟩
 f47:=func272.trans (congrArg some kr)
 f48:=func273.trans (congrArg some kr)
 f49:=⟨ "slices.medianAdjacentCmpFunc[int]",by decide,func274.trans (congrArg some kr)⟩
 f50:=⟨ "slices.medianCmpFunc[int]",by decide,func275.trans (congrArg some kr)⟩
 f57:=⟨ "slices.order2CmpFunc[int]",by decide,func289.trans (congrArg some kr)⟩
 t0:=underlying0
 a0:=isAgg0
 z0:=sizeOf0
 v0:=zeroValue0
 t3:=underlying3
 a3:=isAgg3
 z3:=sizeOf3
 v3:=zeroValue3
 t4:=underlying4
 a4:=isAgg4
 z4:=sizeOf4
 v4:=zeroValue4
 t5:=underlying5
 a5:=isAgg5
 z5:=sizeOf5
 v5:=zeroValue5
 t9:=underlying9
 a9:=isAgg9
 z9:=sizeOf9
 v9:=zeroValue9
 t22:=underlying37
 a22:=isAgg37
 z22:=sizeOf37
 v22:=zeroValue37
 t25:=underlying192
 a25:=isAgg192
 z25:=sizeOf192
 v25:=zeroValue192
 t39:=underlying272
 a39:=isAgg272
 z39:=sizeOf272
 v39:=zeroValue272
 t45:=underlying319
 a45:=isAgg319
 z45:=sizeOf319
 v45:=zeroValue319
 t46:=underlying320
 a46:=isAgg320
 z46:=sizeOf320
 v46:=zeroValue320
 t50:=underlying324
 a50:=isAgg324
 z50:=sizeOf324
 v50:=zeroValue324
 t53:=underlying22
 a53:=isAgg22
 z53:=sizeOf22
 v53:=zeroValue22
 t55:=underlying328
 a55:=isAgg328
 z55:=sizeOf328
 v55:=zeroValue328
 t66:=underlying354
 a66:=isAgg354
 z66:=sizeOf354
 v66:=zeroValue354
 t70:=underlying358
 a70:=isAgg358
 z70:=sizeOf358
 v70:=zeroValue358
 t76:=underlying377
 a76:=isAgg377
 z76:=sizeOf377
 v76:=zeroValue377
 t77:=underlying139
 a77:=isAgg139
 z77:=sizeOf139
 v77:=zeroValue139
 a24:=isAgg3
 z24:=sizeOf3
theorem len64_z:HQ 238 [.int .u64 0] [] (iV 0) []:=by
 refine hiS func238 ntmps238 fun g w0 R h0=>go [.v 10 2 (oYr 0),.s 10 3]<|lwP (yV 0) (law_idxStr (x:=(Operand.const (.string (St [0,1,2,2,3,3,3,3,4,4,4,4,4,4,4,4,5,5,5,5,5,5,5,5,5,5,5,5,5,5,5,5,6,6,6,6,6,6,6,6,6,6,6,6,6,6,6,6,6,6,6,6,6,6,6,6,6,6,6,6,6,6,6,6,7,7,7,7,7,7,7,7,7,7,7,7,7,7,7,7,7,7,7,7,7,7,7,7,7,7,7,7,7,7,7,7,7,7,7,7,7,7,7,7,7,7,7,7,7,7,7,7,7,7,7,7,7,7,7,7,7,7,7,7,7,7,7,7,8,8,8,8,8,8,8,8,8,8,8,8,8,8,8,8,8,8,8,8,8,8,8,8,8,8,8,8,8,8,8,8,8,8,8,8,8,8,8,8,8,8,8,8,8,8,8,8,8,8,8,8,8,8,8,8,8,8,8,8,8,8,8,8,8,8,8,8,8,8,8,8,8,8,8,8,8,8,8,8,8,8,8,8,8,8,8,8,8,8,8,8,8,8,8,8,8,8,8,8,8,8,8,8,8,8,8,8,8,8,8,8,8,8,8,8,8,8,8,8,8,8,8,8,8,8,8,8])))) (i:=Ot 21) (k:= .u8) (s:= [0,1,2,2,3,3,3,3,4,4,4,4,4,4,4,4,5,5,5,5,5,5,5,5,5,5,5,5,5,5,5,5,6,6,6,6,6,6,6,6,6,6,6,6,6,6,6,6,6,6,6,6,6,6,6,6,6,6,6,6,6,6,6,6,7,7,7,7,7,7,7,7,7,7,7,7,7,7,7,7,7,7,7,7,7,7,7,7,7,7,7,7,7,7,7,7,7,7,7,7,7,7,7,7,7,7,7,7,7,7,7,7,7,7,7,7,7,7,7,7,7,7,7,7,7,7,7,7,8,8,8,8,8,8,8,8,8,8,8,8,8,8,8,8,8,8,8,8,8,8,8,8,8,8,8,8,8,8,8,8,8,8,8,8,8,8,8,8,8,8,8,8,8,8,8,8,8,8,8,8,8,8,8,8,8,8,8,8,8,8,8,8,8,8,8,8,8,8,8,8,8,8,8,8,8,8,8,8,8,8,8,8,8,8,8,8,8,8,8,8,8,8,8,8,8,8,8,8,8,8,8,8,8,8,8,8,8,8,8,8,8,8,8,8,8,8,8,8,8,8,8,8,8,8,8,8]) (z:=0) (b:=0) kr underlying9 kr kr 0 om rfl _)<|go [.v 10 4 (oIr 0)] ?_
 exact enR _ [] h0
theorem len_z:HQ 185 [.int .u64 0] [] (iV 0) []:=by
 refine hiS func185 ntmps185 fun g w0 R h0=>g0<|cl0 call238 len64_z h0 fun _ h11=>g0 ?_
 exact enR _ [] h11
theorem ins_z(p:Option Addr)(c r:Nat):HQ 229 [.slice p 0 c,iV 0,iV 0,.func (Fn.func 106) #[] #[pV r]] [] (.tuple #[]) []:=by
 refine hiS func229 ntmps229 fun g w0 R h0=>g0<|unS 1<|g0<|up<|g0 ?_
 exact enR _ [] h0
theorem pdq_z(p:Option Addr)(c r:Nat):HQ 184 [.slice p 0 c,iV 0,iV 0,iV 0,.func (Fn.func 106) #[] #[pV r]] [] (.tuple #[]) []:=by
 refine hiS func184 ntmps184 fun g w0 R h0=>g0<|unS 1<|g0<|cl0 call229 (ins_z p c r) h0 fun _ h11=>g0<|up<|g0 ?_
 exact enR _ [] h11
theorem sort_z(p:Option Addr)(c r:Nat):HQ 105 [.slice p 0 c,.func (Fn.func 106) #[] #[pV r]] [] (.tuple #[]) []:=by
 refine hiS func105 ntmps105 fun g w0 R h0=>go [.v 1 3 (oLr 0)]<|cl0 call185 len_z h0 fun _ h11=>g0<|cl0 call184 (pdq_z p c r) h11 fun _ h13=>g0 ?_
 exact enR _ [] h13
theorem isort_ht(p:Option Addr)(m c c1 c3 b n:Nat)(X:List Int)(S:Ts)(hm:m≤1000000):HT prog 105 [.slice p m c,.func (.func 106) #[] #[pV c3]] [Sl 3 1 p m c (fl eI X),Cl c3 [Value.func (Fn.func 104) #[] #[Value.pointer (some ⟨c1,0,none⟩)]] 188,Cl c1 [Value.pointer (some ⟨b,0,none⟩)] 25,TW b n S]
  (fun v K=> ∃M:List Int,(M.Perm X∧M.Pairwise fun a b=>ltOf (cfB S) b a=false)∧v= .tuple #[]∧K= [Sl 3 1 p m c (fl eI M),Cl c3 [Value.func (Fn.func 104) #[] #[Value.pointer (some ⟨c1,0,none⟩)]] 188,Cl c1 [Value.pointer (some ⟨b,0,none⟩)] 25,TW b n S]):=by
 intro g w F hs
 rcases Nat.eq_zero_or_pos m with h0|h0
 · subst h0
   have hl:X= []:=List.eq_nil_of_length_eq_zero (fl_n eI_ok dc hs)
   subst hl
   refine(sort_z p c c3 g w _ hs).mono ?_
   rintro e w' ⟨v,K,rfl,⟨rfl,rfl⟩,h2⟩
   exact⟨_,_,rfl,⟨[],⟨List.Perm.refl _,List.Pairwise.nil⟩,rfl,rfl⟩,h2⟩
 · have hs1:sat g w (TW b n S::(F++ [Sl 3 1 p m c (fl eI X),Cl c3 [Value.func (Fn.func 104) #[] #[Value.pointer (some ⟨c1,0,none⟩)]] 188,Cl c1 [Value.pointer (some ⟨b,0,none⟩)] 25])):=sat_rot (A:= [Sl 3 1 p m c (fl eI X),Cl c3 [Value.func (Fn.func 104) #[] #[Value.pointer (some ⟨c1,0,none⟩)]] 188,Cl c1 [Value.pointer (some ⟨b,0,none⟩)] 25]) (B:=TW b n S::F) hs
   obtain⟨hW,hs2⟩:=wi_out hs1
   obtain⟨ts,tm,tp,tc,E0,hM,hs3⟩:=tab_open hs2
   have hs4:sat g w (Sl 3 1 p m c (fl eI X)::Cl c3 [Value.func (Fn.func 104) #[] #[Value.pointer (some ⟨c1,0,none⟩)]] 188::Cl c1 [Value.pointer (some ⟨b,0,none⟩)] 25::Cl b [.pointer (some ⟨ts,0,none⟩),.map (some tm),.slice tp S.R.length tc] 35::Tb ts n S.A::Gp kI vE tm E0::Sl 82 8 tp S.R.length tc (fl eRs S.R)::F):=
    sat_rot (A:=Cl b [.pointer (some ⟨ts,0,none⟩),.map (some tm),.slice tp S.R.length tc] 35::Tb ts n S.A::Gp kI vE tm E0::Sl 82 8 tp S.R.length tc (fl eRs S.R)::F) (B:= [Sl 3 1 p m c (fl eI X),Cl c3 [Value.func (Fn.func 104) #[] #[Value.pointer (some ⟨c1,0,none⟩)]] 188,Cl c1 [Value.pointer (some ⟨b,0,none⟩)] 25]) hs3
   obtain⟨bs,cur,hp,e2,e3,e4⟩:=sl_open hs4 h0
   refine(sort_rowI sortLayI (cfB S) (swoB S) 106 [pV c3] call106 hs4 h0 om ?_).mono ?_
   · intro bb W hpb hWa x y
     obtain rfl:bb=bs:=by rw[hp] at hpb;simpa using hpb.symm
     have a1:=cl_away (j:=0) e4 rfl hWa
     have a2:=cl_away (j:=1) e4 rfl hWa
     have a3:=cl_away (j:=2) e4 rfl hWa
     have a4:=rd_away (j:=5) e4 rfl hWa (gv_sl _ _ _)
     exact exact_of (oclo2_ht W b ts tm tc tp S (by simp[World.cell?,a3]) (by simp[World.cell?,a3]) (by simp[World.cell?,a3]) a4 hM.2 c1 (by simp[World.cell?,a2]) c3 (by simp[World.cell?,a1]) x y)
   · rintro e w' ⟨rfl,M,h1,h2,h3⟩
     refine⟨_,_,rfl,⟨M,⟨h1,h2⟩,rfl,rfl⟩,?_⟩
     have h4:=sat_rot (A:= [Sl 3 1 p m c (fl eI M),Cl c3 [Value.func (Fn.func 104) #[] #[Value.pointer (some ⟨c1,0,none⟩)]] 188,Cl c1 [Value.pointer (some ⟨b,0,none⟩)] 25]) (B:=Cl b [.pointer (some ⟨ts,0,none⟩),.map (some tm),.slice tp S.R.length tc] 35::Tb ts n S.A::Gp kI vE tm E0::Sl 82 8 tp S.R.length tc (fl eRs S.R)::F) h3
     have h5:sat g w' (TW b n S::(F++ [Sl 3 1 p m c (fl eI M),Cl c3 [Value.func (Fn.func 104) #[] #[Value.pointer (some ⟨c1,0,none⟩)]] 188,Cl c1 [Value.pointer (some ⟨b,0,none⟩)] 25])):=wi_in hW (tab_close hM.1 hM.2 rfl h4)
     exact sat_rot (A:=TW b n S::F) (B:= [Sl 3 1 p m c (fl eI M),Cl c3 [Value.func (Fn.func 104) #[] #[Value.pointer (some ⟨c1,0,none⟩)]] 188,Cl c1 [Value.pointer (some ⟨b,0,none⟩)] 25]) h5
theorem closing_w(b n:Nat)(S:Ts):HT prog 44 [pV b] [TW b n S] (fun v K=> ∃(p:Option Addr) (c:Nat),v= .slice p ((srtB S).length) c∧K= [TW b n S,Sl 3 1 p ((srtB S).length) c (fl eI (srtB S))]):=by
 refine hiS func44 ntmps44 fun g w0 R h0=> ?_
 have hW_:=(wi_out h0).1;have hrl_:=hW_.rl;have hnl_:=nums_le S.R 2
 refine g0<|nP 25 [pV b] h0 (fun r10 _ h12=> ?_)
 refine g0<|nP 188 [Value.nilFunc] h12 (fun r13 _ h15=> ?_)
 refine sA [.func (Fn.func 104) #[] #[pV r10]] h15 fun _ h17=> ?_
 have h20:=h17.b.t4
 refine go [rd 2 0 1 0 1 h17]<|cP call51 (tnums_w b n S 2) h20 ?_
 rintro v K _ (⟨p18,c19,rfl,rfl⟩) h22
 have h27:=(ap2 h22).a.t5
 have hl28:=fl_n eI_ok dc h27
 have h29:=h27.c.c.b.t5
 refine g0<|cP call105 (isort_ht p18 ((nums S.R 2).length) c19 r10 r13 b n (nums S.R 2) S om) h29 ?_
 rintro v K w30 (⟨M24,⟨hM25,hM26⟩,rfl,rfl⟩) h31
 have h32:=ap4 h31
 refine g0 ?_
 have he_:M24=srtB S:=srtB_uniq hM25 hM26
 have h33:sat g _ (Sl 3 1 p18 ((srtB S).length) c19 (fl eI (srtB S))::_):=sat_imp h32 (fun _ hh_=>by rw[srtB_len,←he_];exact hh_)
 exact en (.slice p18 ((nums S.R 2).length) c19) [] ⟨_,_,rfl,⟨p18,c19,by rw[srtB_len],rfl⟩,(tk3 (sf2 (sf2 (sf4 h33.c.t5))))⟩
theorem bkchk_ok(ba cp:Int)(hb:1≤ba∧ba≤cp∧cp≤1048576):HQ 48 [iV ba,iV cp] [] (iV 0) []:=by
 refine hiS func48 ntmps48 fun g w0 R h0=>go [.v 1 1 (oF (ba<1)),.v 1 5 (oF (cp<ba)),.v 1 9 (oF (cp>1048576))] ?_
 exact enR _ [] h0
theorem bkchk_no(ba cp:Int)(h:ba<1∨cp<ba∨1048576<cp):HQ 48 [iV ba,iV cp] [] (iV 2) []:=by
 refine hiS func48 ntmps48 fun g w0 R h0=>go [.s 1 1] ?_
 by_cases c10:ba<1
 ·
  refine go [.v 1 1 (oT _ c10)] ?_
  exact enR _ [] h0
 refine go [.v 1 1 (oF _ c10),.s 1 5] ?_
 by_cases c11:cp<ba
 ·
  refine go [.v 1 5 (oT _ c11)] ?_
  exact enR _ [] h0
 refine go [.v 1 5 (oF _ c11),.v 1 9 (oT (cp>1048576))] ?_
 exact enR _ [] h0
theorem bkchk_ht(ba cp:Int):HQ 48 [Value.int IntKind.i64 ba,Value.int IntKind.i64 cp] [] (Value.int .i64 (bkE ba cp)) []:=by
 unfold bkE
 split
 · rename_i h
   exact bkchk_no ba cp h
 · rename_i h
   exact bkchk_ok ba cp om
theorem bkck_ok(tr ba cp:Int)(ht:1≤tr∧tr≤64)(hb:1≤ba∧ba≤cp∧cp≤1048576):HQ 61 [iV tr,iV ba,iV cp] [] (iV 0) []:=by
 refine hiS func61 ntmps61 fun g w0 R h0=>go [.v 1 1 (oF (tr<1)),.v 1 4 (oF (tr>64))]<|cl0 call48 (bkchk_ok ba cp om) h0 fun _ h11=>g0 ?_
 exact enR _ [] h11
theorem waits_ht(ba cp:Int):HT prog 127 [iV ba,iV cp] [] (fun v K=> ∃c1 c2:Nat,v= .func (Fn.func 200) #[] #[pV c1,pV c2]∧K= [Cl c1 [iV ba] 2,Cl c2 [iV cp] 2]):=by
 refine hiS func127 ntmps127 fun g w0 R h0=>g0<|nP 2 [iV ba] h0 (fun r10 _ h12=> ?_)
 refine nP 2 [iV cp] h12 (fun r13 _ h15=> ?_)
 refine g0 ?_
 exact en (.func (Fn.func 200) #[] #[pV r10,pV r13]) [] ⟨_,_,rfl,⟨r10,r13,rfl,rfl⟩,h15.a.t3⟩
theorem waits_it(c1 c2:Nat)(ba cp:Int)(hb:1≤ba∧ba≤cp∧cp≤1048576):IT prog 200 [pV c1,pV c2] 64 (fun i:Nat=> [iV ((i:Int)+1),iV (wtN ba cp i)]) [Cl c1 [iV ba] 2,Cl c2 [iV cp] 2]:=by
 refine itS func200 ntmps200 fun g w0 R k_ J_ E_ hY h0=> ?_
 have h10:sat g w0 [J_ 0,Cl c1 [iV ba] 2,Cl c2 [iV cp] 2,R]:=h0
 refine go [rd 0 0 1 0 1 h10] ?_
 refine lpS (fun mz_ a w=> ∃k:Nat,∃wv:Int,∃lr:Fr,mz_=64-k∧(k≤64)∧(wv=wtN ba cp k)∧(1≤wv∧wv≤cp)∧a=mk 21 (([(0,.func (Fn.yield k_) #[] #[]),(2,pV c2),(4,iV wv),(5,iV ((k:Int)+1))]:Fr)++lr)∧sat g w [J_ k,Cl c1 [iV ba] 2,Cl c2 [iV cp] 2,R]) (64-0) ⟨0,ba,_,rfl,(Nat.zero_le _),rfl,om,(lvF [.k 0 (.func (Fn.yield k_) #[] #[]),.k 2 (pV c2),.k 4 (iV ba),.o 5 (oJ .i64 1 ((0:Int)+1))]),h10⟩ ?_
 rintro m12 a13 w14 ⟨k,wv,lr11,rfl,hk,hwv_,hwb_,rfl,h15⟩
 refine ga<|go [.s 2 99999] ?_
 refine plS 6<|go [.s 2 1] ?_
 by_cases c16:(k:Int)+1≤64
 ·
  refine go [.v 2 1 (oT _ c16)] ?_
  refine yY 2 (args:= [Value.int IntKind.i64 ((k:Int)+1),Value.int IntKind.i64 wv]) (xa:=(fun i:Nat=> [Value.int .i64 ((i:Int)+1),Value.int .i64 (wtN ba cp i)]) k) (by show [Value.int .i64 ((k:Int)+1),Value.int .i64 (wtN ba cp k)]=_;rw[←hwv_]) (hY k om _ [R] h15) ?_ ?_
  ·
   intro w17 h18
   have h19:sat g w17 [J_ (k+1),Cl c1 [iV ba] 2,Cl c2 [iV cp] 2,R]:=h18
   have hlt20:=(om:k<64)
   refine go [.v 4 1 (oIr (2*wv)),rd 4 2 2 0 1 h19,.s 4 3] ?_
   by_cases c21:cp<2*wv
   ·
    refine go [.v 4 3 (⟨iV (if cp<2*wv then cp else 2*wv),iV cp,(ov_int (if_pos om))⟩),.v 3 1 (oI (((k:Int)+1)+1) ((k:Int)+2))] ?_
    exact enN (64-(k+1)) ⟨(k+1),cp,_,rfl,om,(by unfold wtN;rw[←hwv_];omega),om,(lvF [.k 0 (.func (Fn.yield k_) #[] #[]),.k 2 (pV c2),.k 4 (iV cp),.o 5 (oJ .i64 ((k:Int)+2) ((((k+1):Nat):Int)+1))]),h19⟩
   refine go [.v 4 3 (⟨iV (if cp<2*wv then cp else 2*wv),iV (2*wv),(ov_int (if_neg om))⟩),.v 3 1 (oI (((k:Int)+1)+1) ((k:Int)+2))] ?_
   exact enN (64-(k+1)) ⟨(k+1),2*wv,_,rfl,om,(by unfold wtN;rw[←hwv_];omega),om,(lvF [.k 0 (.func (Fn.yield k_) #[] #[]),.k 2 (pV c2),.k 4 (iV (2*wv)),.o 5 (oJ .i64 ((k:Int)+2) ((((k+1):Nat):Int)+1))]),h19⟩
  intro w22 h23
  have h24:sat g w22 [E_ k,R]:=h23
  have hlt25:=(om:k<64)
  refine g0<|up<|g0 ?_
  exact en (.tuple #[]) [] ⟨⟨_,rfl⟩,.inr ⟨k,om,h24⟩⟩
 refine go [.v 2 1 (oF _ c16)] ?_
 refine yN 2<|g0<|up<|g0 ?_
 have he_:k=64:=(by omega)
 exact en (.tuple #[]) [] ⟨⟨_,rfl⟩,.inl (he_▸h15)⟩
theorem wait1_t(ct:Nat)(tr ka kb:Int)(h:ka=tr):HQ 63 [iV ka,iV kb,pV ct] [Cl ct [iV tr] 3] (.bool true) [Cl ct [iV tr] 3]:=by
 refine hiS func63 ntmps63 fun g w0 R h0=>go [rd 1 1 0 0 1 h0,.v 1 2 (qeT ka tr)] ?_
 exact enR _ [] h0
theorem wait1_f(ct:Nat)(tr ka kb:Int)(h: ¬ka=tr):HQ 63 [iV ka,iV kb,pV ct] [Cl ct [iV tr] 3] (.bool false) [Cl ct [iV tr] 3]:=by
 refine hiS func63 ntmps63 fun g w0 R h0=>go [rd 1 1 0 0 1 h0,.v 1 2 (qeF ka tr)] ?_
 exact enR _ [] h0
theorem find_ht(ct:Nat)(tr ba cp:Int)(ht:1≤tr∧tr≤64)(hb:1≤ba∧ba≤cp∧cp≤1048576):HQ 62 [iV ba,iV cp,.func (Fn.func 63) #[] #[pV ct]] [Cl ct [iV tr] 3] (.tuple #[iV tr,iV (wtB tr ba cp)]) [Cl ct [iV tr] 3]:=by
 refine hiS func62 ntmps62 fun g w0 R h0=>g0<|nP 134 [.func (Fn.func 63) #[] #[pV ct]] h0 (fun r10 _ h12=> ?_)
 refine nP 3 [iV 0] h12 (fun r13 _ h15=> ?_)
 refine nP 2 [iV 0] h15 (fun r16 _ h18=> ?_)
 refine g0<|cP call127 (waits_ht ba cp) h18 ?_
 rintro v K _ (⟨b19,b20,rfl,rfl⟩) h22
 have h24:=(ap2 h22).e.c.d.e.t7
 refine g0 ?_
 refine rfS (N:=64) (fun i K=>((i:Int)<tr)∧K= [Cl r10 [.func (Fn.func 63) #[] #[pV ct]] 134,Cl r13 [iV 0] 3,Cl r16 [iV 0] 2,Cl ct [iV tr] 3]) (fun c i K=>(c=Code.ret∧((i:Int)+1=tr)∧K= [Cl r10 [.func (Fn.func 63) #[] #[pV ct]] 134,Cl r13 [iV ((i:Int)+1)] 3,Cl r16 [iV (wtN ba cp i)] 2,Cl ct [iV tr] 3])) call200 (waits_it b19 b20 ba cp hb) ⟨om,rfl⟩ h24 ?_ ?_ ?_
 ·
  rintro i hi27 lp_ w25 K_ G ⟨hlt_,rfl⟩ h26
  have h28:sat g w25 [Cl r10 [.func (Fn.func 63) #[] #[pV ct]] 134,Cl r13 [iV 0] 3,Cl r16 [iV 0] 2,Cl ct [iV tr] 3,Cl b19 [iV ba] 2,Cl b20 [iV cp] 2,G]:=h26
  refine go [rd 4 0 0 0 1 h28] ?_
  by_cases c29:(i:Int)+1=tr
  ·
   refine cl1 call63 (wait1_t ct tr ((i:Int)+1) (wtN ba cp i) om) h28.c.t7 fun _ h32=> ?_
   have h33:=h32.b.t7
   refine g0<|sA [iV ((i:Int)+1)] h33 fun _ h35=>sA [iV (wtN ba cp i)] h35.c.t7 fun _ h38=>g0 ?_
   exact rbR ⟨rfl,om,rfl⟩ (tk5 h38.f.c.b.c.d.t7)
  refine cl1 call63 (wait1_f ct tr ((i:Int)+1) (wtN ba cp i) om) h28.c.t7 fun _ h43=>g0 ?_
  exact rbN ⟨om,rfl⟩ h43.c.c.c.t7
 ·
  rintro D45 w46 K_ ⟨hlt_,rfl⟩ h47
  have h48:sat g w46 [pt D45 (Obj.deferred (some [])),Cl r10 [.func (Fn.func 63) #[] #[pV ct]] 134,Cl r13 [iV 0] 3,Cl r16 [iV 0] 2,Cl ct [iV tr] 3,Cl b19 [iV ba] 2,Cl b20 [iV cp] 2,R]:=h47
  have h49:=h48.b.t8
  refine g0<|sA [iV 0] h49 fun _ h51=>sA [iV 0] h51.c.t8 fun _ h54=>g0 ?_
  refine enD (.tuple #[iV 0,iV 0]) h54.b.t8 (fun w57 h56=> [rd 0 0 2 0 1 h56,rd 0 0 1 0 1 h56]) (fun w57 h56=> ?_) [iV 0,iV 0] [(⟨r13,0,none⟩,iV 0),(⟨r16,0,none⟩,iV 0)]
  exact⟨_,_,rfl,⟨by exfalso;omega,rfl⟩,(tk2 (sf1 (sf7 h56.d.t8)))⟩
 rintro D60 w61 ex_ i K_ hi63 (⟨rfl,hex_,rfl⟩) h62
 have h64:sat g w61 [pt D60 (Obj.deferred (some [])),Cl r10 [.func (Fn.func 63) #[] #[pV ct]] 134,Cl r13 [iV ((i:Int)+1)] 3,Cl r16 [iV (wtN ba cp i)] 2,Cl ct [iV tr] 3,R]:=h62
 refine g0 ?_
 refine enD (.tuple #[iV ((i:Int)+1),iV (wtN ba cp i)]) h64 (fun w66 h65=> [rd 0 0 2 0 1 h65,rd 0 0 3 0 1 h65]) (fun w66 h65=> ?_) [iV ((i:Int)+1),iV (wtN ba cp i)] [(⟨r13,0,none⟩,iV ((i:Int)+1)),(⟨r16,0,none⟩,iV (wtN ba cp i))]
 exact⟨_,_,rfl,⟨by unfold wtB;rw[show (tr-1).toNat=i from by omega,show ((i:Int)+1)=tr from by omega],rfl⟩,(tk2 (sf1 (sf5 h65.d.t6)))⟩
theorem wait_ht(tr ba cp:Int)(ht:1≤tr∧tr≤64)(hb:1≤ba∧ba≤cp∧cp≤1048576):HQ 22 [iV tr,iV ba,iV cp] [] (.tuple #[iV (wtB tr ba cp),iV 0]) []:=by
 refine hiS func22 ntmps22 fun g w0 R h0=>g0<|nP 3 [iV tr] h0 (fun r10 _ h12=> ?_)
 refine go [rd 1 0 0 0 1 h12]<|cl0 call61 (bkck_ok tr ba cp om om) h12 fun _ h14=>g0<|cl1 call62 (find_ht r10 tr ba cp om om) h14 fun _ h16=>g0 ?_
 exact enR _ [] h16.a.t1
theorem rckd_ok(r:Rs)(hres:resR r=0)(hz0:0≤r.out.2.2)(hz1:r.out.2.2≤4294967295)(st:Int)(h:r.st=st):HQ 111 [.agg #[iV r.out.1,iV r.out.2.1,uV r.out.2.2,iV r.st,iV r.why,iV r.tr,iV r.nx,.string (St r.tag)],.bool true,iV st] [] (iV 0) []:=by
 refine hiS func111 ntmps111 fun g w0 R h0=>g0<|nP 82 [iV r.out.1,iV r.out.2.1,uV r.out.2.2,iV r.st,iV r.why,iV r.tr,iV r.nx,.string (St r.tag)] h0 (fun _ _ h12=> ?_)
 refine go [rd 1 0 0 0 8 h12]<|cl0 call125 (by have h_:=rchk_ht r.out.1 r.out.2.1 r.out.2.2 r.st r.why r.tr r.nx r.tag om om (by have:=res_len hres;omega);rw[show resE r.out.1 r.out.2.1 r.out.2.2 r.st r.why r.tr r.nx r.tag=0 from hres] at h_;exact h_) h12 fun _ h14=> ?_
 refine go [rd 6 1 0 3 1 h14,.v 6 3 (qnF r.st st)] ?_
 exact enR _ [] h14.a.t1
theorem rckd_st(r:Rs)(hres:resR r=0)(hz0:0≤r.out.2.2)(hz1:r.out.2.2≤4294967295)(st:Int)(h: ¬r.st=st):HQ 111 [.agg #[iV r.out.1,iV r.out.2.1,uV r.out.2.2,iV r.st,iV r.why,iV r.tr,iV r.nx,.string (St r.tag)],.bool true,iV st] [] (iV 8) []:=by
 refine hiS func111 ntmps111 fun g w0 R h0=>g0<|nP 82 [iV r.out.1,iV r.out.2.1,uV r.out.2.2,iV r.st,iV r.why,iV r.tr,iV r.nx,.string (St r.tag)] h0 (fun _ _ h12=> ?_)
 refine go [rd 1 0 0 0 8 h12]<|cl0 call125 (by have h_:=rchk_ht r.out.1 r.out.2.1 r.out.2.2 r.st r.why r.tr r.nx r.tag om om (by have:=res_len hres;omega);rw[show resE r.out.1 r.out.2.1 r.out.2.2 r.st r.why r.tr r.nx r.tag=0 from hres] at h_;exact h_) h12 fun _ h14=> ?_
 refine go [rd 6 1 0 3 1 h14,.v 6 3 (qnT r.st st)] ?_
 exact enR _ [] h14.a.t1
theorem rclo_ok(r:Rs)(hres:resR r=0)(hz0:0≤r.out.2.2)(hz1:r.out.2.2≤4294967295)(y t:Int)(hy:1≤y∧y≤3)(ht:0≤t∧t≤1099511627776)(h:r.st=1):HQ 52 [.agg #[iV r.out.1,iV r.out.2.1,uV r.out.2.2,iV r.st,iV r.why,iV r.tr,iV r.nx,.string (St r.tag)],iV y,iV t] [] (.tuple #[.agg #[iV r.out.1,iV r.out.2.1,uV r.out.2.2,iV 2,iV y,iV r.tr,iV t,.string (St r.tag)],iV 0]) []:=by
 refine hiS func52 ntmps52 fun g w0 R h0=>g0<|nP 82 [iV r.out.1,iV r.out.2.1,uV r.out.2.2,iV r.st,iV r.why,iV r.tr,iV r.nx,.string (St r.tag)] h0 (fun _ _ h12=> ?_)
 refine nP 82 [iV 0,iV 0,uV 0,iV 0,iV 0,iV 0,iV 0,.string (St [])] h12 (fun _ _ h15=> ?_)
 refine g0<|dw (fls [0,1] (Tr.an 2 (fls [3,4] (Tr.an 5 (Tr.fl 6 (Tr.an 7 (Tr.fl 8 Tr.nil))))))) h15 fun _ h17=>go [rd 1 0 1 0 8 h17]<|cw0 call122 (in_t y 1 3 om) h17 fun _ h19=>⟨kd [rd 0 0 1 0 8 h19],?_⟩
 refine g0<|cw0 call112 (time_t t om) h19 fun _ h21=>⟨kd [rd 0 0 1 0 8 h21],?_⟩
 refine g0<|cw0 call111 (rckd_ok r hres om om 1 om) h21 fun _ h23=>⟨kd [],?_⟩
 have h24:=h23.a.t3
 refine g0<|sP [(3,iV 2)] [iV r.out.1,iV r.out.2.1,uV r.out.2.2,iV 2,iV r.why,iV r.tr,iV r.nx,.string (St r.tag)] h24 fun _ h26=>g0<|sP [(4,iV y)] [iV r.out.1,iV r.out.2.1,uV r.out.2.2,iV 2,iV y,iV r.tr,iV r.nx,.string (St r.tag)] h26 fun _ h28=>g0<|sP [(6,iV t)] [iV r.out.1,iV r.out.2.1,uV r.out.2.2,iV 2,iV y,iV r.tr,iV t,.string (St r.tag)] h28 fun _ h30=> ?_
 have h31:=h30.a.t3
 refine go [rd 5 0 0 0 8 h30]<|sA [iV r.out.1,iV r.out.2.1,uV r.out.2.2,iV 2,iV y,iV r.tr,iV t,.string (St r.tag)] h31 fun _ h33=>g0 ?_
 exact enR _ [rd 0 0 0 0 8 h33] h33.b.t1
theorem rclo_no(r:Rs)(hres:resR r=0)(hz0:0≤r.out.2.2)(hz1:r.out.2.2≤4294967295)(y t:Int)(hy:1≤y∧y≤3)(ht:0≤t∧t≤1099511627776)(h: ¬r.st=1):HQ 52 [.agg #[iV r.out.1,iV r.out.2.1,uV r.out.2.2,iV r.st,iV r.why,iV r.tr,iV r.nx,.string (St r.tag)],iV y,iV t] [] (.tuple #[.agg #[iV 0,iV 0,uV 0,iV 0,iV 0,iV 0,iV 0,.string (St [])],iV 8]) []:=by
 refine hiS func52 ntmps52 fun g w0 R h0=>g0<|nP 82 [iV r.out.1,iV r.out.2.1,uV r.out.2.2,iV r.st,iV r.why,iV r.tr,iV r.nx,.string (St r.tag)] h0 (fun _ _ h12=> ?_)
 refine nP 82 [iV 0,iV 0,uV 0,iV 0,iV 0,iV 0,iV 0,.string (St [])] h12 (fun _ _ h15=> ?_)
 refine g0<|dw (fls [0,1] (Tr.an 2 (fls [3,4] (Tr.an 5 (Tr.fl 6 (Tr.an 7 (Tr.fl 8 Tr.nil))))))) h15 fun _ h17=>go [rd 1 0 1 0 8 h17]<|cw0 call122 (in_t y 1 3 om) h17 fun _ h19=>⟨kd [rd 0 0 1 0 8 h19],?_⟩
 refine g0<|cw0 call112 (time_t t om) h19 fun _ h21=>⟨kd [rd 0 0 1 0 8 h21],?_⟩
 refine g0<|cw0 call111 (rckd_st r hres om om 1 om) h21 fun _ h23=>⟨kd [],?_⟩
 refine g0<|sA [iV 0,iV 0,uV 0,iV 0,iV 0,iV 0,iV 0,.string (St [])] h23 fun _ h25=>g0 ?_
 exact enR _ [rd 0 0 0 0 8 h25] h25.b.t1
theorem rdue_y(r:Rs)(hres:resR r=0)(hz0:0≤r.out.2.2)(hz1:r.out.2.2≤4294967295)(t:Int)(ht:0≤t∧t≤1099511627776)(hst:r.st=2)(h:r.nx≤t):HQ 46 [.agg #[iV r.out.1,iV r.out.2.1,uV r.out.2.2,iV r.st,iV r.why,iV r.tr,iV r.nx,.string (St r.tag)],iV t] [] (.tuple #[.bool true,iV 0]) []:=by
 refine hiS func46 ntmps46 fun g w0 R h0=>g0<|nP 82 [iV r.out.1,iV r.out.2.1,uV r.out.2.2,iV r.st,iV r.why,iV r.tr,iV r.nx,.string (St r.tag)] h0 (fun _ _ h12=> ?_)
 refine g0<|dw (fls [0,1,3,4] (Tr.an 2 (Tr.an 5 (Tr.fl 6 Tr.nil)))) h12 fun _ h14=>go [rd 1 0 0 0 8 h14,rd 1 4 0 3 1 h14]<|cw0 call112 (time_t t om) h14 fun _ h16=>⟨kd [rd 0 4 0 3 1 h16,rd 0 0 0 0 8 h16],?_⟩
 refine cw0 call111 (rckd_ok r hres om om r.st om) h16 fun _ h18=>⟨kd [],?_⟩
 refine go [rd 4 1 0 3 1 h18,.v 4 2 (qeT r.st 2),rd 4 5 0 6 1 h18,.v 4 7 (oT (r.nx≤t))] ?_
 exact enR _ [] h18.a.t1
theorem rdue_n(r:Rs)(hres:resR r=0)(hz0:0≤r.out.2.2)(hz1:r.out.2.2≤4294967295)(t:Int)(ht:0≤t∧t≤1099511627776)(hst:r.st=2)(h:t<r.nx):HQ 46 [.agg #[iV r.out.1,iV r.out.2.1,uV r.out.2.2,iV r.st,iV r.why,iV r.tr,iV r.nx,.string (St r.tag)],iV t] [] (.tuple #[.bool false,iV 0]) []:=by
 refine hiS func46 ntmps46 fun g w0 R h0=>g0<|nP 82 [iV r.out.1,iV r.out.2.1,uV r.out.2.2,iV r.st,iV r.why,iV r.tr,iV r.nx,.string (St r.tag)] h0 (fun _ _ h12=> ?_)
 refine g0<|dw (fls [0,1,3,4] (Tr.an 2 (Tr.an 5 (Tr.fl 6 Tr.nil)))) h12 fun _ h14=>go [rd 1 0 0 0 8 h14,rd 1 4 0 3 1 h14]<|cw0 call112 (time_t t om) h14 fun _ h16=>⟨kd [rd 0 4 0 3 1 h16,rd 0 0 0 0 8 h16],?_⟩
 refine cw0 call111 (rckd_ok r hres om om r.st om) h16 fun _ h18=>⟨kd [],?_⟩
 refine go [rd 4 1 0 3 1 h18,.v 4 2 (qeT r.st 2),rd 4 5 0 6 1 h18,.v 4 7 (oF (r.nx≤t))] ?_
 exact enR _ [] h18.a.t1
theorem rtri_ht(r:Rs)(hres:resR r=0)(hz0:0≤r.out.2.2)(hz1:r.out.2.2≤4294967295)(x t wt:Int)(hx:1≤x∧x≤3)(ht:0≤t∧t≤1099511627776)(hw:1≤wt∧wt≤1048576)(hst:r.st=2):HQ 120 [.agg #[iV r.out.1,iV r.out.2.1,uV r.out.2.2,iV r.st,iV r.why,iV r.tr,iV r.nx,.string (St r.tag)],iV x,iV t,iV wt] [] (.tuple #[.agg #[iV ((triX r x t wt).out.1),iV ((triX r x t wt).out.2.1),uV ((triX r x t wt).out.2.2),iV ((triX r x t wt).st),iV ((triX r x t wt).why),iV ((triX r x t wt).tr),iV ((triX r x t wt).nx),.string (St ((triX r x t wt).tag))],iV (triE r x t wt)]) []:=by
 have hp_:=(res_ok hres).1;unfold posP at hp_;have hp0_:0≤r.tr∧r.tr≤10000:=by omega
 refine hiS func120 ntmps120 fun g w0 R h0=>g0<|nP 82 [iV r.out.1,iV r.out.2.1,uV r.out.2.2,iV r.st,iV r.why,iV r.tr,iV r.nx,.string (St r.tag)] h0 (fun _ _ h12=> ?_)
 refine nP 82 [iV 0,iV 0,uV 0,iV 0,iV 0,iV 0,iV 0,.string (St [])] h12 (fun _ _ h15=> ?_)
 refine g0<|dw (fls [0,1] (Tr.an 2 (fls [3,4] (Tr.an 5 (fls [6,7,8] (Tr.an 9 (Tr.fl 10 (Tr.an 11 (Tr.fl 12 Tr.nil))))))))) h15 fun _ h17=>go [rd 1 0 1 0 8 h17]<|cw0 call122 (in_t x 1 3 om) h17 fun _ h19=>⟨kd [rd 0 0 1 0 8 h19],?_⟩
 refine g0<|cw0 call112 (time_t t om) h19 fun _ h21=>⟨kd [rd 0 0 1 0 8 h21],?_⟩
 refine g0<|cw0 call122 (in_t wt 1 1048576 om) h21 fun _ h23=>⟨kd [rd 0 0 1 0 8 h23],?_⟩
 refine g0<|cw0 call111 (rckd_ok r hres om om 2 om) h23 fun _ h25=>⟨kd [],?_⟩
 refine go [.s 8 0] ?_
 by_cases c26:x=1
 ·
  have h27:=h25.a.t3
  refine go [.v 8 0 (qeT _ _ c26)]<|sP [(3,iV 3)] [iV r.out.1,iV r.out.2.1,uV r.out.2.2,iV 3,iV r.why,iV r.tr,iV r.nx,.string (St r.tag)] h27 fun _ h29=>g0<|sP [(6,iV 0)] [iV r.out.1,iV r.out.2.1,uV r.out.2.2,iV 3,iV r.why,iV r.tr,iV 0,.string (St r.tag)] h29 fun _ h31=> ?_
  have h32:=h31.a.t3
  refine go [rd 12 0 0 0 8 h31]<|sA [iV r.out.1,iV r.out.2.1,uV r.out.2.2,iV 3,iV r.why,iV r.tr,iV 0,.string (St r.tag)] h32 fun _ h34=>g0 ?_
  exact en (.tuple #[.agg #[iV r.out.1,iV r.out.2.1,uV r.out.2.2,iV 3,iV r.why,iV r.tr,iV 0,.string (St r.tag)],iV 0]) [rd 0 0 0 0 8 h34] ⟨_,_,rfl,⟨by have he_:triE r x t wt=0:=(if_neg (fun h_=>by omega));unfold triX;rw[if_pos he_,he_];unfold triR;rw[if_pos om],rfl⟩,h34.b.t1⟩
 refine go [.v 8 0 (qeF _ _ c26),.s 10 0] ?_
 by_cases c36:x=3
 ·
  have h37:=h25.a.t3
  refine go [.v 10 0 (qeT _ _ c36)]<|sP [(3,iV 4)] [iV r.out.1,iV r.out.2.1,uV r.out.2.2,iV 4,iV r.why,iV r.tr,iV r.nx,.string (St r.tag)] h37 fun _ h39=>g0<|sP [(6,iV 0)] [iV r.out.1,iV r.out.2.1,uV r.out.2.2,iV 4,iV r.why,iV r.tr,iV 0,.string (St r.tag)] h39 fun _ h41=> ?_
  have h42:=h41.a.t3
  refine go [rd 12 0 0 0 8 h41]<|sA [iV r.out.1,iV r.out.2.1,uV r.out.2.2,iV 4,iV r.why,iV r.tr,iV 0,.string (St r.tag)] h42 fun _ h44=>g0 ?_
  exact en (.tuple #[.agg #[iV r.out.1,iV r.out.2.1,uV r.out.2.2,iV 4,iV r.why,iV r.tr,iV 0,.string (St r.tag)],iV 0]) [rd 0 0 0 0 8 h44] ⟨_,_,rfl,⟨by have he_:triE r x t wt=0:=(if_neg (fun h_=>by omega));unfold triX;rw[if_pos he_,he_];unfold triR;rw[if_neg om,if_pos om],rfl⟩,h44.b.t1⟩
 refine go [.v 10 0 (qeF _ _ c36),.v 5 2 (oI (1099511627776-wt) (-wt+1099511627776)),.s 5 3] ?_
 by_cases c46:t> -wt+1099511627776
 ·
  refine go [.v 5 3 (oT _ c46)]<|sA [iV 0,iV 0,uV 0,iV 0,iV 0,iV 0,iV 0,.string (St [])] h25 fun _ h48=>g0 ?_
  exact en (.tuple #[.agg #[iV 0,iV 0,uV 0,iV 0,iV 0,iV 0,iV 0,.string (St [])],iV 17]) [rd 0 0 0 0 8 h48] ⟨_,_,rfl,⟨by have he_:triE r x t wt=17:=(if_pos ⟨by omega,by omega⟩);unfold triX;rw[if_neg om,he_];rfl,rfl⟩,h48.b.t1⟩
 refine go [.v 5 3 (oF _ c46),rd 5 6 1 5 1 h25,.s 5 7] ?_
 by_cases c50:r.tr≥10000
 ·
  refine go [.v 5 7 (oT _ c50)]<|sA [iV 0,iV 0,uV 0,iV 0,iV 0,iV 0,iV 0,.string (St [])] h25 fun _ h52=>g0 ?_
  exact en (.tuple #[.agg #[iV 0,iV 0,uV 0,iV 0,iV 0,iV 0,iV 0,.string (St [])],iV 17]) [rd 0 0 0 0 8 h52] ⟨_,_,rfl,⟨by have he_:triE r x t wt=17:=(if_pos ⟨by omega,by omega⟩);unfold triX;rw[if_neg om,he_];rfl,rfl⟩,h52.b.t1⟩
 have h54:=h25.a.t3
 refine go [.v 5 7 (oF _ c50),rd 7 1 1 5 1 h25,.v 7 2 (oIr (r.tr+1)),.v 7 5 (oIr (t+wt))]<|sP [(5,iV (r.tr+1))] [iV r.out.1,iV r.out.2.1,uV r.out.2.2,iV r.st,iV r.why,iV (r.tr+1),iV r.nx,.string (St r.tag)] h54 fun _ h56=>g0<|sP [(6,iV (t+wt))] [iV r.out.1,iV r.out.2.1,uV r.out.2.2,iV r.st,iV r.why,iV (r.tr+1),iV (t+wt),.string (St r.tag)] h56 fun _ h58=> ?_
 have h59:=h58.a.t3
 refine go [rd 12 0 0 0 8 h58]<|sA [iV r.out.1,iV r.out.2.1,uV r.out.2.2,iV r.st,iV r.why,iV (r.tr+1),iV (t+wt),.string (St r.tag)] h59 fun _ h61=>g0 ?_
 exact en (.tuple #[.agg #[iV r.out.1,iV r.out.2.1,uV r.out.2.2,iV r.st,iV r.why,iV (r.tr+1),iV (t+wt),.string (St r.tag)],iV 0]) [rd 0 0 0 0 8 h61] ⟨_,_,rfl,⟨by have he_:triE r x t wt=0:=(if_neg (fun h_=>by omega));unfold triX;rw[if_pos he_,he_];unfold triR;rw[if_neg om,if_neg om],rfl⟩,h61.b.t1⟩
theorem there_w(b n:Nat)(S:Ts):HQ 43 [pV b] [TW b n S] (.bool true) [TW b n S]:=by
 refine hiS func43 ntmps43 fun g w0 R h0=>g0<|cP call103 (tcopy_w b n S) h0 ?_
 rintro v K _ (⟨b10,rfl,rfl⟩) h12
 have h13:=ap2 h12
 refine g0 ?_
 exact enR _ [] h13.B.t2
theorem left_w(b n:Nat)(S:Ts):HQ 14 [pV b] [TW b n S] (.tuple #[iV (((nums S.R 2).length:Nat):Int),iV 0]) [TW b n S]:=by
 refine hiS func14 ntmps14 fun g w0 R h0=>g0<|cl1 call43 (there_w b n S) h0 fun _ h11=>g0<|cP call51 (tnums_w b n S 2) h11 ?_
 rintro v K _ (⟨p12,c13,rfl,rfl⟩) h15
 have h16:=ap2 h15
 refine g0 ?_
 exact enR _ [] h16.B.t2
theorem settled_w(b n:Nat)(S:Ts):HQ 15 [pV b] [TW b n S] (.tuple #[.bool (decide ((nums S.R 2).length=0)),iV 0]) [TW b n S]:=by
 refine hiS func15 ntmps15 fun g w0 R h0=>g0<|cl1 call14 (left_w b n S) h0 fun _ h11=>go [.s 2 4] ?_
 by_cases c12:(((nums S.R 2).length:Nat):Int)=0
 ·
  refine go [.v 2 4 (qeT _ _ c12)] ?_
  exact en (.tuple #[.bool true,iV 0]) [] ⟨_,_,rfl,⟨by rw[decide_eq_true om],rfl⟩,h11⟩
 refine go [.v 2 4 (qeF _ _ c12)] ?_
 exact en (.tuple #[.bool false,iV 0]) [] ⟨_,_,rfl,⟨by rw[decide_eq_false om],rfl⟩,h11⟩
theorem wake_w(b n:Nat)(S:Ts):HQ 13 [pV b] [TW b n S] (.tuple #[iV (((srtB S)[0]?.map (nxR S)).getD 0),.bool (decide (0<(srtB S).length)),iV 0]) [TW b n S]:=by
 refine hiS func13 ntmps13 fun g w0 R h0=> ?_
 have hW_:=(wi_out h0).1;have hrl_:=hW_.rl;have hsl_:(srtB S).length≤S.R.length:=by rw[srtB_len];exact nums_le S.R 2
 refine g0<|cl1 call43 (there_w b n S) h0 fun _ h11=>g0<|cP call44 (closing_w b n S) h11 ?_
 rintro v K _ (⟨p12,c13,rfl,rfl⟩) h15
 have h16:=ap2 h15
 refine go [.s 4 2] ?_
 by_cases c17:(((srtB S).length:Nat):Int)=0
 ·
  refine go [.v 4 2 (qeT _ _ c17)] ?_
  exact en (.tuple #[iV 0,.bool false,iV 0]) [] ⟨_,_,rfl,⟨by rw[decide_eq_false om,List.getElem?_eq_none om];rfl,rfl⟩,h16.B.t2⟩
 obtain⟨b19,hp20⟩:=sl_ptr0 (j:=1) h16 rfl om
 refine go [.v 4 2 (qeF _ _ c17),.s 6 2]<|lwP (pV b19) (liP (Ot 18) (Operand.const (iV 0)) p12 b19 0 0 ((srtB S).length) c13 underlying37 1 0 hp20 0) ?_
 have h21:=h16.a.t3
 have hl22:=fl_n eI_ok dc h21
 obtain⟨x23,hx24⟩: ∃x,(srtB S)[0]? =some x:=⟨_,List.getElem?_eq_getElem (by rw[hl22];omega)⟩
 have hm25:=mem_srt.1 (List.mem_of_getElem? hx24);have hm25g:=wf_get hW_ hm25.1;have hm25a:=hm25.2;have hm25b:=hm25g.2.1;have hm25c:=hm25g.2.2.1
 have hm25d:=hm25.1
 have h26:=h21.a.t3
 refine go [.r 6 3 b19 0 [iV x23] ⟨gvc 0 h21 rfl hp20 eI_ok 0 (iV x23) hx24 0,trivial⟩]<|cl1 call45 (tget_w b n S x23) h26 fun _ h28=>g0<|nP 82 [iV 0,iV 0,uV 0,iV 0,iV 0,iV 0,iV 0,.string (St [])] h28 (fun _ _ h31=> ?_)
 refine sA [iV ((getR S x23).out.1),iV ((getR S x23).out.2.1),uV ((getR S x23).out.2.2),iV ((getR S x23).st),iV ((getR S x23).why),iV ((getR S x23).tr),iV ((getR S x23).nx),.string (St ((getR S x23).tag))] h31 fun _ h33=>go [rd 7 1 0 6 1 h33,.v 7 3 (qeT (nE S x23) 0)] ?_
 exact en (.tuple #[iV ((getR S x23).nx),.bool true,iV (nE S x23)]) [] ⟨_,_,rfl,⟨by rw[decide_eq_true om,hx24,hm25.1];rfl,rfl⟩,(tk2 (sf1 (sf3 h33.a.t4)))⟩
theorem due_arg(b n:Nat)(S:Ts)(t mo:Int)(h:t<0∨1099511627776<t∨mo<0):HQ 11 [pV b,iV t,iV mo] [TW b n S] (.tuple #[.slice none 0 0,iV 2]) [TW b n S]:=by
 refine hiS func11 ntmps11 fun g w0 R h0=>g0<|cl1 call43 (there_w b n S) h0 fun _ h11=>go [.s 3 1] ?_
 by_cases c12:t<0
 ·
  refine go [.v 3 1 (oT _ c12)] ?_
  exact enR _ [] h11
 refine go [.v 3 1 (oF _ c12),.s 3 4] ?_
 by_cases c13:t>1099511627776
 ·
  refine go [.v 3 4 (oT _ c13)] ?_
  exact enR _ [] h11
 refine go [.v 3 4 (oF _ c13),.v 3 8 (oT (mo<0))] ?_
 exact enR _ [] h11
theorem due_w(b n:Nat)(S:Ts)(t mo:Int)(h:0≤t∧t≤1099511627776∧0≤mo):HT prog 11 [pV b,iV t,iV mo] [TW b n S] (fun v K=> ∃(p:Option Addr) (c:Nat),v= .tuple #[.slice p ((dueB S t mo).length) c,iV 0]∧K= [TW b n S,Sl 3 1 p ((dueB S t mo).length) c (fl eI (dueB S t mo))]):=by
 refine hiS func11 ntmps11 fun g w0 R h0=> ?_
 have hW_:=(wi_out h0).1;have hrl_:=hW_.rl;have hsl_:(srtB S).length≤S.R.length:=by rw[srtB_len];exact nums_le S.R 2
 refine g0<|cl1 call43 (there_w b n S) h0 fun _ h11=>go [.v 3 1 (oF (t<0)),.v 3 4 (oF (t>1099511627776)),.v 3 8 (oF (mo<0))]<|cP call44 (closing_w b n S) h11 ?_
 rintro v K w14 (⟨p12,c13,rfl,rfl⟩) h15
 have h16:=ap2 h15
 refine g0 ?_
 have h17:=h16.a.t3
 have hl18:=fl_n eI_ok dc h17
 have h19:sat g _ (Sl 3 1 none 0 0 (fl eI [])::_):=sl_nil 3 1 h17
 have h20:sat g _ (Sl 3 1 none 0 0 (fl eI ((srtB S).take 0))::_):=sat_imp h19 (fun _ hh_=>by rw[show ([]:List Int)=((srtB S).take 0) from (by simp)] at hh_;exact hh_)
 refine lpS (fun mz_ a w=> ∃i:Nat,∃p2:Option Addr,∃c2:Nat,∃lr:Fr,mz_=((srtB S).length)-i∧(i≤(srtB S).length)∧(∀(j:Nat) (n_:Int),j<i→(srtB S)[j]? =some n_→nxR S n_≤t)∧((i:Int)≤mo)∧a=mk 67 (([(0,pV b),(1,iV t),(2,iV mo),(8,.slice p2 i c2),(31,.slice p12 ((srtB S).length) c13),(32,iV (((srtB S).length:Nat):Int)),(33,iV (i:Int))]:Fr)++lr)∧sat g w [Sl 3 1 p2 i c2 (fl eI ((srtB S).take i)),TW b n S,Sl 3 1 p12 ((srtB S).length) c13 (fl eI (srtB S)),R]) ((srtB S).length-0) ⟨0,none,0,_,rfl,(Nat.zero_le _),(fun j_ n_ hj_=>absurd hj_ (Nat.not_lt_zero _)),om,(lvF [.k 0 (pV b),.k 1 (iV t),.k 2 (iV mo),.k 8 (.slice none 0 0),.k 31 (.slice p12 ((srtB S).length) c13),.k 32 (iV (((srtB S).length:Nat):Int)),.o 33 (oJ .i64 0 (0:Int))]),h20.b.a.t4⟩ ?_
 rintro m23 a24 w25 ⟨i,p2,c2,lr22,rfl,hi_,hall_,him_,rfl,h26⟩
 refine ga<|go [.s 7 0] ?_
 by_cases c27:(i:Int)<(((srtB S).length:Nat):Int)
 ·
  obtain⟨b28,hp29⟩:=sl_ptr0 (j:=2) h26 rfl om
  refine go [.v 7 0 (oT _ c27),.s 8 0]<|lwP (.pointer (some ⟨b28,i,none⟩)) (liP (Ot 31) (Ot 33) p12 b28 0 (i:Int) ((srtB S).length) c13 underlying37 1 i hp29 i) ?_
  obtain⟨x30,hx31⟩: ∃x,(srtB S)[i]? =some x:=⟨_,List.getElem?_eq_getElem (by rw[hl18];omega)⟩
  have hm32:=mem_srt.1 (List.mem_of_getElem? hx31);have hm32g:=wf_get hW_ hm32.1;have hm32a:=hm32.2;have hm32b:=hm32g.2.1;have hm32c:=hm32g.2.2.1
  have hm32d:=hm32.1
  have h33:=h26.a.t4
  refine go [.r 8 1 b28 i [iV x30] ⟨gvc 2 h26 rfl hp29 eI_ok 0 (iV x30) hx31 i,trivial⟩]<|cl1 call45 (tget_w b n S x30) h33 fun _ h35=>g0<|nP 82 [iV 0,iV 0,uV 0,iV 0,iV 0,iV 0,iV 0,.string (St [])] h35 (fun r36 _ h38=> ?_)
  refine sA [iV ((getR S x30).out.1),iV ((getR S x30).out.2.1),uV ((getR S x30).out.2.2),iV ((getR S x30).st),iV ((getR S x30).why),iV ((getR S x30).tr),iV ((getR S x30).nx),.string (St ((getR S x30).tag))] h38 fun _ h40=>go [rd 10 0 0 0 8 h40] ?_
  by_cases c41:(getR S x30).nx≤t;rotate_left
  ·
   refine cl0 call46 (rdue_n (getR S x30) hm32g.1 om om t om om om) h40 fun w63 h64=>g0<|up<|g0 ?_
   have hd_:dueB S t mo=(srtB S).take i:=due_stop hall_ hi_ him_ (by first|exact .inr om|exact .inl (fun n_ hn_=>by rw[List.getElem?_eq_none om] at hn_;cases hn_)|exact .inl (fun n_ hn_=>by rw[hx31] at hn_;obtain rfl:=Option.some.inj hn_;unfold nxR;omega))
   have hdl_:(dueB S t mo).length=i:=by rw[hd_,List.length_take];omega
   have h66:sat g _ (Sl 3 1 p2 ((dueB S t mo).length) c2 (fl eI (dueB S t mo))::_):=sat_imp h64.b.t5 (fun _ hh_=>by rw[hdl_,hd_];exact hh_)
   exact en (.tuple #[.slice p2 i c2,iV 0]) [] ⟨_,_,rfl,⟨p2,c2,by rw[hdl_],rfl⟩,(tk3 (sf2 (sf2 (sf4 h66.b.t5))))⟩
  refine cl0 call46 (rdue_y (getR S x30) hm32g.1 om om t om om om) h40 fun w42 h43=>go [.s 11 10] ?_
  by_cases c44:(i:Int)=mo
  ·
   refine go [.v 11 10 (qeT _ _ c44)]<|up<|g0 ?_
   have hd_:dueB S t mo=(srtB S).take i:=due_stop hall_ hi_ him_ (by first|exact .inr om|exact .inl (fun n_ hn_=>by rw[List.getElem?_eq_none om] at hn_;cases hn_)|exact .inl (fun n_ hn_=>by rw[hx31] at hn_;obtain rfl:=Option.some.inj hn_;unfold nxR;omega))
   have hdl_:(dueB S t mo).length=i:=by rw[hd_,List.length_take];omega
   have h46:sat g _ (Sl 3 1 p2 ((dueB S t mo).length) c2 (fl eI (dueB S t mo))::_):=sat_imp h43.b.t5 (fun _ hh_=>by rw[hdl_,hd_];exact hh_)
   exact en (.tuple #[.slice p2 i c2,iV 0]) [] ⟨_,_,rfl,⟨p2,c2,by rw[hdl_],rfl⟩,(tk3 (sf2 (sf2 (sf4 h46.b.t5))))⟩
  refine go [.v 11 10 (qeF _ _ c44)]<|nG (fun q_=> .slice (some ⟨q_,0,none⟩) 1 1) 3 [iV x30] h43 (fun r49 _ h51=>⟨kd [],?_⟩)
  have h52:=h51.c.t6
  refine actG ?_
  refine aA 64 1 (Ot 61) (Ot 63) (iV 0) p2 i c2 1 1 (⟨r49,0,none⟩) 8 underlying37 h52 (fl eI [x30]) rfl (cell1 h52 rfl) (fl_one eI_ok _) (i+1) ?_
  intro p53 cap54 w55 h56
  have h57:sat g _ (Sl 3 1 p53 (i+1) cap54 (fl eI (((srtB S).take i)++ [x30]))::_):=sJ h56
  obtain⟨hn58,hn59⟩:=sl_le h57
  refine nxA<|go [.v 13 0 (oIr ((i:Int)+1))] ?_
  refine enL ?_
  have h60:sat g _ (Sl 3 1 p53 (i+1) cap54 (fl eI ((srtB S).take (i+1)))::_):=sat_imp h57 (fun _ hh_=>by rw[show ((((srtB S).take i)++ [x30]):List Int)=((srtB S).take (i+1)) from takeB_go hx31] at hh_;exact hh_)
  have h62:=tk4 h60.e.e.e.c.t6
  change ∃n',n'<_∧_
  refine⟨((srtB S).length-(i+1)),by omega,(i+1),p53,cap54,_,rfl,om,(fun j_ n_ hj_ hn_=>(Nat.lt_succ_iff_lt_or_eq.1 hj_).elim (fun h_=>hall_ j_ n_ h_ hn_) (fun h_=>by rw[h_,hx31] at hn_;obtain rfl:=Option.some.inj hn_;unfold nxR;omega)),om,(lvF [.k 0 (pV b),.k 1 (iV t),.k 2 (iV mo),.k 8 (.slice p53 (i+1) cap54),.k 31 (.slice p12 ((srtB S).length) c13),.k 32 (iV (((srtB S).length:Nat):Int)),.o 33 (oJ .i64 ((i:Int)+1) (((i+1):Nat):Int))]),h62⟩
 refine go [.v 7 0 (oF _ c27)]<|up<|g0 ?_
 have hd_:dueB S t mo=(srtB S).take i:=due_stop hall_ hi_ him_ (by first|exact .inr om|exact .inl (fun n_ hn_=>by rw[List.getElem?_eq_none om] at hn_;cases hn_))
 have hdl_:(dueB S t mo).length=i:=by rw[hd_,List.length_take];omega
 have h69:sat g _ (Sl 3 1 p2 ((dueB S t mo).length) c2 (fl eI (dueB S t mo))::_):=sat_imp h26 (fun _ hh_=>by rw[hdl_,hd_];exact hh_)
 exact en (.tuple #[.slice p2 i c2,iV 0]) [] ⟨_,_,rfl,⟨p2,c2,by rw[hdl_],rfl⟩,(tk3 (sf2 (sf2 (sf3 h69.a.t4))))⟩
theorem tw_ok{g w:World}{L:List Assn}{b n:Nat}{S:Ts}{j:Nat}(h:sat g w L)(hj:L[j]? =some (TW b n S)):Wf n S:=sat_use h hj fun _ ha _=>ha.1
def AtB(c1 c2 c3 c4 b n wb:Nat)(p:Option Addr)(cc:Nat)(l:List Int)(S:Ts)(W:Wst)(x0 x1 x2 x3 x4 x5 bt ba cp x9:Int)(i:Nat):Assn:=star [Cl c1 [Value.pointer (some ⟨wb,0,none⟩)] 26,Cl c2 [Value.slice p l.length cc] 37,Cl c3 [Value.pointer (some ⟨b,0,none⟩)] 25,Cl c4 [Value.int IntKind.i64 x0,Value.int IntKind.i64 x1,Value.int IntKind.i64 x2,Value.int IntKind.i64 x3,Value.int IntKind.i64 x4,Value.int IntKind.i64 x5,Value.int IntKind.i64 bt,Value.int IntKind.i64 ba,Value.int IntKind.i64 cp,Value.int IntKind.u32 x9] 24,TW b n ((stB (⟨bt,ba,cp⟩:Cf) W.now (S,W) l i).1),Wd wb ((stB (⟨bt,ba,cp⟩:Cf) W.now (S,W) l i).2),Sl 3 1 p l.length cc (fl eI l)]
abbrev z6x1:=fun r46 r_ a_ (W:Wst) q39 (ba cp:Int)=>Cl r46 [iV ((triX r_ a_ W.now (wtB q39 ba cp)).out.1),iV ((triX r_ a_ W.now (wtB q39 ba cp)).out.2.1),uV ((triX r_ a_ W.now (wtB q39 ba cp)).out.2.2),iV ((triX r_ a_ W.now (wtB q39 ba cp)).st),iV ((triX r_ a_ W.now (wtB q39 ba cp)).why),iV ((triX r_ a_ W.now (wtB q39 ba cp)).tr),iV ((triX r_ a_ W.now (wtB q39 ba cp)).nx),.string (St ((triX r_ a_ W.now (wtB q39 ba cp)).tag))] 82
abbrev z6x2:=fun(c4:Nat) (x0 x1 x2 x3 x4 x5 bt ba cp x9:Int)=>Cl c4 [iV x0,iV x1,iV x2,iV x3,iV x4,iV x5,iV bt,iV ba,iV cp,uV x9] 24
abbrev z6x3:=fun(c2:Nat) (p:Option Addr) (l:List Int) (cc:Nat)=>Cl c2 [.slice p l.length cc] 37
abbrev z6x4:=fun(p:Option Addr) (l:List Int) (cc:Nat)=>Sl 3 1 p l.length cc (fl eI l)
theorem att_it(c1 c2 c3 c4 b n wb:Nat)(p:Option Addr)(cc:Nat)(l:List Int)(S:Ts)(W:Wst)(x0 x1 x2 x3 x4 x5 bt ba cp x9:Int)(hb:1≤ba∧ba≤cp∧cp≤1048576)(hrun:RunOk (⟨bt,ba,cp⟩:Cf) W.now (S,W) l)(hll:l.length≤2000):ITA prog 118 [pV c1,pV c2,pV c3,pV c4] l.length (fun i:Nat=> [vAt ((atsB (⟨bt,ba,cp⟩:Cf) W.now (S,W) l).getD i at0)]) (AtB c1 c2 c3 c4 b n wb p cc l S W x0 x1 x2 x3 x4 x5 bt ba cp x9):=by
 refine itSA func118 ntmps118 fun g w0 R k_ J_ E_ hY h0=> ?_
 have h10:sat g w0 [Cl c1 [pV wb] 26,z6x3 c2 p l cc,Cl c3 [pV b] 25,z6x2 c4 x0 x1 x2 x3 x4 x5 bt ba cp x9,TW b n S,Wd wb W,z6x4 p l cc,J_ 0,R]:=sat_unstar (sat_sw h0)
 have h11:=h10.e.t9
 refine go [rd 0 0 0 0 1 h10]<|cl1 call38 (wnow_ht wb W) h11 fun _ h13=>go [rd 1 0 2 0 1 h13] ?_
 refine lpS (fun mz_ a w=> ∃i:Nat,∃Y:Pw,∃lr:Fr,mz_=l.length-i∧((stB (⟨bt,ba,cp⟩:Cf) W.now (S,W) l i)=Y)∧(i≤l.length)∧a=mk 79 (([(0,.func (Fn.yield k_) #[] #[]),(1,pV c1),(3,pV c3),(4,pV c4),(6,iV W.now),(19,.slice p l.length cc),(20,iV (l.length:Int)),(21,iV (i:Int))]:Fr)++lr)∧sat g w [J_ i,Cl c1 [pV wb] 26,z6x3 c2 p l cc,Cl c3 [pV b] 25,z6x2 c4 x0 x1 x2 x3 x4 x5 bt ba cp x9,TW b n Y.1,Wd wb Y.2,z6x4 p l cc,R]) (l.length-0) ⟨0,(S,W),_,rfl,rfl,(Nat.zero_le _),(lvF [.k 0 (.func (Fn.yield k_) #[] #[]),.k 1 (pV c1),.k 3 (pV c3),.k 4 (pV c4),.k 6 (iV W.now),.k 19 (.slice p l.length cc),.k 20 (iV (l.length:Int)),.o 21 (oJ .i64 0 (0:Int))]),h13.e.e.e.e.e.x.t9⟩ ?_
 rintro m16 a17 w18 ⟨i,Y,lr15,rfl,hY_,hi_,rfl,h19⟩
 refine ga<|go [.s 2 0] ?_
 by_cases c20:(i:Int)<(l.length:Int)
 ·
  obtain⟨b21,hp22⟩:=sl_ptr0 (j:=7) h19 rfl om
  refine go [.v 2 0 (oT _ c20),.s 3 0]<|lwP (.pointer (some ⟨b21,i,none⟩)) (liP (Ot 19) (Ot 21) p b21 0 (i:Int) l.length cc underlying37 1 i hp22 i) ?_
  have h23:=h19.x.t9
  have hl24:=fl_n eI_ok dc h23
  obtain⟨x25,hx26⟩: ∃x,l[i]? =some x:=⟨_,List.getElem?_eq_getElem (by rw[hl24];omega)⟩
  have hq27:=hrun i x25 hx26;rw[hY_] at hq27;have hq27w:=wf_get (tw_ok (j:=6) h23 rfl) hq27.1;have hq27k:=wd_ok (j:=7) h23 rfl;have hq27r:=relA_bd hq27k hq27.2.2
  obtain⟨r_,hr_⟩: ∃r,getR Y.1 x25=r:=⟨_,rfl⟩
  rw[hr_] at hq27 hq27w hq27r
  obtain⟨a_,ha_⟩: ∃a,relA Y.2 r_.out r_.why=a:=⟨_,rfl⟩
  rw[ha_] at hq27r
  have hq27a:=hq27.2.1;have hq27b:=hq27w.2.1;have hq27c:=hq27w.2.2.1;have hq27p:=(res_ok hq27w.1).1;unfold posP at hq27p
  have hq27f:0≤r_.tr∧r_.tr≤10000:=(by omega);have hq27n:Y.2.now=W.now:=(by rw[←hY_];exact stB_now);have hq27l:=hq27k.nl;have hq27h:=hq27k.nh;rw[hq27n] at hq27l hq27h
  have h28:=h23.f.t9
  refine go [.r 3 1 b21 i [iV x25] ⟨gvc 0 h23 rfl hp22 eI_ok 0 (iV x25) hx26 i,trivial⟩,rd 4 0 4 0 1 h23]<|cl1 call45 (by have h_:=tget_w b n Y.1 x25;rw[hr_,hq27.1] at h_;exact h_) h28 fun _ h30=> ?_
  refine g0<|nP 82 [iV 0,iV 0,uV 0,iV 0,iV 0,iV 0,iV 0,.string (St [])] h30 (fun r31 _ h33=> ?_)
  refine sA [iV r_.out.1,iV r_.out.2.1,uV r_.out.2.2,iV r_.st,iV r_.why,iV r_.tr,iV r_.nx,.string (St r_.tag)] h33 fun _ h35=> ?_
  have h36:=h35.h.t10
  refine go [rd 5 0 4 0 1 h35,rd 5 2 0 0 3 h35,rd 5 4 0 4 1 h35]<|cl1 call119 (by have h_:=wrel_ht wb Y.2 r_.out.1 r_.out.2.1 r_.out.2.2 r_.why om om;rw[show relA Y.2 ((r_.out.1,r_.out.2.1,r_.out.2.2):Ky) r_.why=a_ from ha_,show relE Y.2 ((r_.out.1,r_.out.2.1,r_.out.2.2):Ky) r_.why=0 from hq27.2.2] at h_;exact h_) h36 fun _ h38=> ?_
  obtain⟨q39,hq40,hq40a,hq40b,hq40c⟩: ∃q:Int,(if 64<r_.tr+1 then 64 else r_.tr+1)=q∧q≤r_.tr+1∧q≤64∧1≤q:=⟨_,rfl,by split<;>omega,by split<;>omega,by split<;>omega⟩
  have hw41:wtB q39 ba cp=wtOf (⟨bt,ba,cp⟩:Cf) r_:=by unfold wtOf;rw[show min (r_.tr+1) 64=q39 from by rw[←hq40];try (split<;>omega)]
  have hw41b:1≤wtB q39 ba cp∧wtB q39 ba cp≤1048576:=by have h_:=wtN_bd (base:=ba) (cap:=cp) ⟨hb.1,hb.2.1⟩ (q39-1).toNat;exact⟨h_.1,by have:=h_.2;unfold wtB;omega⟩
  refine go [rd 7 1 1 5 1 h38,.v 7 2 (oIr (r_.tr+1)),.v 7 3 (⟨iV (if 64<r_.tr+1 then 64 else r_.tr+1),iV q39,(ov_int hq40)⟩),rd 7 5 8 7 1 h38,rd 7 7 8 8 1 h38]<|cl0 call22 (wait_ht q39 ba cp om om) h38 fun _ h43=>go [rd 8 0 1 0 8 h43]<|cl0 call120 (rtri_ht r_ hq27w.1 om om a_ W.now (wtB q39 ba cp) om om om om) h43 fun _ h45=>g0<|nP 82 [iV 0,iV 0,uV 0,iV 0,iV 0,iV 0,iV 0,.string (St [])] h45 (fun r46 _ h48=> ?_)
  refine sA [iV ((triX r_ a_ W.now (wtB q39 ba cp)).out.1),iV ((triX r_ a_ W.now (wtB q39 ba cp)).out.2.1),uV ((triX r_ a_ W.now (wtB q39 ba cp)).out.2.2),iV ((triX r_ a_ W.now (wtB q39 ba cp)).st),iV ((triX r_ a_ W.now (wtB q39 ba cp)).why),iV ((triX r_ a_ W.now (wtB q39 ba cp)).tr),iV ((triX r_ a_ W.now (wtB q39 ba cp)).nx),.string (St ((triX r_ a_ W.now (wtB q39 ba cp)).tag))] h48 fun w49 h50=>go [.s 9 1] ?_
  by_cases c51:(triE r_ a_ W.now (wtB q39 ba cp))=0
  ·
   have ht52:=triX_ok (show triE r_ a_ W.now (wtB q39 ba cp)=0 by first|assumption|omega);have ht52a:=ht52.2.1;have ht52b:(triX r_ a_ W.now (wtB q39 ba cp)).tag.length≤96:=by rw[ht52.2.2];exact hq27w.2.2.2
   have h53:=h50.c.t11
   refine go [.v 9 1 (qeT _ _ c51),rd 10 0 8 0 1 h50,rd 10 2 0 0 8 h50]<|cl1 call54 (tset_w b n Y.1 x25 ((triX r_ a_ W.now (wtB q39 ba cp)).out.1) ((triX r_ a_ W.now (wtB q39 ba cp)).out.2.1) ((triX r_ a_ W.now (wtB q39 ba cp)).out.2.2) ((triX r_ a_ W.now (wtB q39 ba cp)).st) ((triX r_ a_ W.now (wtB q39 ba cp)).why) ((triX r_ a_ W.now (wtB q39 ba cp)).tr) ((triX r_ a_ W.now (wtB q39 ba cp)).nx) ((triX r_ a_ W.now (wtB q39 ba cp)).tag) om om om) h53 fun w54 h55=>go [.s 11 99999] ?_
   refine plS 8 ?_
   have hH57:triE (getR Y.1 x25) (relA Y.2 (getR Y.1 x25).out (getR Y.1 x25).why) W.now (wtOf (⟨bt,ba,cp⟩:Cf) (getR Y.1 x25))=0:=by rw[hr_,ha_,←hw41];first|assumption|(show (triE r_ a_ W.now (wtB q39 ba cp)=0);omega)
   have hH57x:triR (getR Y.1 x25) (relA Y.2 (getR Y.1 x25).out (getR Y.1 x25).why) W.now (wtOf (⟨bt,ba,cp⟩:Cf) (getR Y.1 x25))=triX r_ a_ W.now (wtB q39 ba cp):=by rw[hr_,ha_,←hw41];exact ht52.1.symm
   have hs56:(stB (⟨bt,ba,cp⟩:Cf) W.now (S,W) l (i+1))=((setS Y.1 x25 ⟨((triX r_ a_ W.now (wtB q39 ba cp)).out.1,(triX r_ a_ W.now (wtB q39 ba cp)).out.2.1,(triX r_ a_ W.now (wtB q39 ba cp)).out.2.2),(triX r_ a_ W.now (wtB q39 ba cp)).st,(triX r_ a_ W.now (wtB q39 ba cp)).why,(triX r_ a_ W.now (wtB q39 ba cp)).tr,(triX r_ a_ W.now (wtB q39 ba cp)).nx,(triX r_ a_ W.now (wtB q39 ba cp)).tag⟩),relS Y.2 ((r_.out.1,r_.out.2.1,r_.out.2.2):Ky) r_.why):=(stB_succ hx26).trans (by rw[hY_];exact Prod.ext ((if_pos hH57).trans (congrArg (setS Y.1 x25) hH57x)) (by show relS Y.2 (getR Y.1 x25).out (getR Y.1 x25).why=_;rw[hr_]))
   have h58:sat g w54 [TW b n ((stB (⟨bt,ba,cp⟩:Cf) W.now (S,W) l (i+1)).1),z6x1 r46 r_ a_ W q39 ba cp,Wd wb (relS Y.2 ((r_.out.1,r_.out.2.1,r_.out.2.2):Ky) r_.why),Cl r31 [iV r_.out.1,iV r_.out.2.1,uV r_.out.2.2,iV r_.st,iV r_.why,iV r_.tr,iV r_.nx,.string (St r_.tag)] 82,z6x4 p l cc,J_ i,Cl c1 [pV wb] 26,z6x3 c2 p l cc,Cl c3 [pV b] 25,z6x2 c4 x0 x1 x2 x3 x4 x5 bt ba cp x9,R]:=(show (setS Y.1 x25 ⟨((triX r_ a_ W.now (wtB q39 ba cp)).out.1,(triX r_ a_ W.now (wtB q39 ba cp)).out.2.1,(triX r_ a_ W.now (wtB q39 ba cp)).out.2.2),(triX r_ a_ W.now (wtB q39 ba cp)).st,(triX r_ a_ W.now (wtB q39 ba cp)).why,(triX r_ a_ W.now (wtB q39 ba cp)).tr,(triX r_ a_ W.now (wtB q39 ba cp)).nx,(triX r_ a_ W.now (wtB q39 ba cp)).tag⟩)=((stB (⟨bt,ba,cp⟩:Cf) W.now (S,W) l (i+1)).1) from (by rw[hs56]))▸h55
   have h59:=h58.b.t11
   have h60:sat g w54 [Wd wb ((stB (⟨bt,ba,cp⟩:Cf) W.now (S,W) l (i+1)).2),TW b n ((stB (⟨bt,ba,cp⟩:Cf) W.now (S,W) l (i+1)).1),z6x1 r46 r_ a_ W q39 ba cp,Cl r31 [iV r_.out.1,iV r_.out.2.1,uV r_.out.2.2,iV r_.st,iV r_.why,iV r_.tr,iV r_.nx,.string (St r_.tag)] 82,z6x4 p l cc,J_ i,Cl c1 [pV wb] 26,z6x3 c2 p l cc,Cl c3 [pV b] 25,z6x2 c4 x0 x1 x2 x3 x4 x5 bt ba cp x9,R]:=(show (relS Y.2 ((r_.out.1,r_.out.2.1,r_.out.2.2):Ky) r_.why)=((stB (⟨bt,ba,cp⟩:Cf) W.now (S,W) l (i+1)).2) from (by rw[hs56]))▸h59
   have h62:sat g w54 [J_ i,(AtB c1 c2 c3 c4 b n wb p cc l S W x0 x1 x2 x3 x4 x5 bt ba cp x9) (i+1),z6x1 r46 r_ a_ W q39 ba cp,Cl r31 [iV r_.out.1,iV r_.out.2.1,uV r_.out.2.2,iV r_.st,iV r_.why,iV r_.tr,iV r_.nx,.string (St r_.tag)] 82,R]:=sat_sw (sat_star (K:= [Cl c1 [pV wb] 26,z6x3 c2 p l cc,Cl c3 [pV b] 25,z6x2 c4 x0 x1 x2 x3 x4 x5 bt ba cp x9,TW b n ((stB (⟨bt,ba,cp⟩:Cf) W.now (S,W) l (i+1)).1),Wd wb ((stB (⟨bt,ba,cp⟩:Cf) W.now (S,W) l (i+1)).2),z6x4 p l cc]) h60.e.e.b.c.i.i.i.i.t11)
   refine go [rd 11 3 3 0 3 h55,rd 11 5 3 4 1 h55] ?_
   refine yY 11 (args:= [Value.agg #[Value.int IntKind.i64 W.now,Value.int IntKind.i64 r_.out.1,Value.int IntKind.i64 r_.out.2.1,Value.int IntKind.u32 r_.out.2.2,Value.int IntKind.i64 r_.why,Value.int IntKind.i64 a_]]) (xa:=(fun i:Nat=> [vAt ((atsB (⟨bt,ba,cp⟩:Cf) W.now (S,W) l).getD i at0)]) i) (by show [vAt ((atsB (⟨bt,ba,cp⟩:Cf) W.now (S,W) l).getD i at0)]=_;rw[getD_some (ats_at hx26),hY_];unfold attB;rw[hr_,ha_];first|done|rfl) (hY i ((List.getElem?_eq_some_iff.1 hx26).1) _ [Cl r46 [Value.int IntKind.i64 ((triX r_ a_ W.now (wtB q39 ba cp)).out.1),Value.int IntKind.i64 ((triX r_ a_ W.now (wtB q39 ba cp)).out.2.1),Value.int IntKind.u32 ((triX r_ a_ W.now (wtB q39 ba cp)).out.2.2),Value.int IntKind.i64 ((triX r_ a_ W.now (wtB q39 ba cp)).st),Value.int IntKind.i64 ((triX r_ a_ W.now (wtB q39 ba cp)).why),Value.int IntKind.i64 ((triX r_ a_ W.now (wtB q39 ba cp)).tr),Value.int IntKind.i64 ((triX r_ a_ W.now (wtB q39 ba cp)).nx),Value.string (St ((triX r_ a_ W.now (wtB q39 ba cp)).tag))] 82,Cl r31 [Value.int IntKind.i64 r_.out.1,Value.int IntKind.i64 r_.out.2.1,Value.int IntKind.u32 r_.out.2.2,Value.int IntKind.i64 r_.st,Value.int IntKind.i64 r_.why,Value.int IntKind.i64 r_.tr,Value.int IntKind.i64 r_.nx,Value.string (St r_.tag)] 82,R] h62) ?_ ?_
   ·
    intro w63 h64
    have h65:sat g w63 [Cl c1 [pV wb] 26,z6x3 c2 p l cc,Cl c3 [pV b] 25,z6x2 c4 x0 x1 x2 x3 x4 x5 bt ba cp x9,TW b n ((stB (⟨bt,ba,cp⟩:Cf) W.now (S,W) l (i+1)).1),Wd wb ((stB (⟨bt,ba,cp⟩:Cf) W.now (S,W) l (i+1)).2),z6x4 p l cc,J_ (i+1),z6x1 r46 r_ a_ W q39 ba cp,Cl r31 [iV r_.out.1,iV r_.out.2.1,uV r_.out.2.2,iV r_.st,iV r_.why,iV r_.tr,iV r_.nx,.string (St r_.tag)] 82,R]:=sat_unstar (sat_sw h64)
    have hlt66:=((List.getElem?_eq_some_iff.1 hx26).1:i<l.length)
    refine go [.v 12 0 (oIr ((i:Int)+1))] ?_
    refine enL ?_
    have h68:=tk9 h65.j.x.x.x.x.x.x.x.h.t11
    change ∃n',n'<_∧_
    refine⟨(l.length-(i+1)),by omega,(i+1),(stB (⟨bt,ba,cp⟩:Cf) W.now (S,W) l (i+1)),_,rfl,rfl,om,(lvF [.k 0 (.func (Fn.yield k_) #[] #[]),.k 1 (pV c1),.k 3 (pV c3),.k 4 (pV c4),.k 6 (iV W.now),.k 19 (.slice p l.length cc),.k 20 (iV (l.length:Int)),.o 21 (oJ .i64 ((i:Int)+1) (((i+1):Nat):Int))]),h68⟩
   intro w69 h70
   have h71:sat g w69 [E_ i,z6x1 r46 r_ a_ W q39 ba cp,Cl r31 [iV r_.out.1,iV r_.out.2.1,uV r_.out.2.2,iV r_.st,iV r_.why,iV r_.tr,iV r_.nx,.string (St r_.tag)] 82,R]:=h70
   have hlt72:=((List.getElem?_eq_some_iff.1 hx26).1:i<l.length)
   refine g0<|up<|g0 ?_
   exact en (.tuple #[]) [] ⟨⟨_,rfl⟩,.inr ⟨i,om,(tk2 h71.c.a.t4)⟩⟩
  refine go [.v 9 1 (qeF _ _ c51),.s 11 99999] ?_
  refine plS 8 ?_
  have hH76: ¬(triE (getR Y.1 x25) (relA Y.2 (getR Y.1 x25).out (getR Y.1 x25).why) W.now (wtOf (⟨bt,ba,cp⟩:Cf) (getR Y.1 x25))=0):=by rw[hr_,ha_,←hw41];first|assumption|(show ¬(triE r_ a_ W.now (wtB q39 ba cp)=0);omega)
  have hs75:(stB (⟨bt,ba,cp⟩:Cf) W.now (S,W) l (i+1))=(Y.1,relS Y.2 ((r_.out.1,r_.out.2.1,r_.out.2.2):Ky) r_.why):=(stB_succ hx26).trans (by rw[hY_];exact Prod.ext (if_neg hH76) (by show relS Y.2 (getR Y.1 x25).out (getR Y.1 x25).why=_;rw[hr_]))
  have h77:=h50.c.t11
  have h78:sat g w49 [TW b n ((stB (⟨bt,ba,cp⟩:Cf) W.now (S,W) l (i+1)).1),z6x1 r46 r_ a_ W q39 ba cp,Wd wb (relS Y.2 ((r_.out.1,r_.out.2.1,r_.out.2.2):Ky) r_.why),Cl r31 [iV r_.out.1,iV r_.out.2.1,uV r_.out.2.2,iV r_.st,iV r_.why,iV r_.tr,iV r_.nx,.string (St r_.tag)] 82,z6x4 p l cc,J_ i,Cl c1 [pV wb] 26,z6x3 c2 p l cc,Cl c3 [pV b] 25,z6x2 c4 x0 x1 x2 x3 x4 x5 bt ba cp x9,R]:=(show Y.1=((stB (⟨bt,ba,cp⟩:Cf) W.now (S,W) l (i+1)).1) from (by rw[hs75]))▸h77
  have h79:=h78.b.t11
  have h80:sat g w49 [Wd wb ((stB (⟨bt,ba,cp⟩:Cf) W.now (S,W) l (i+1)).2),TW b n ((stB (⟨bt,ba,cp⟩:Cf) W.now (S,W) l (i+1)).1),z6x1 r46 r_ a_ W q39 ba cp,Cl r31 [iV r_.out.1,iV r_.out.2.1,uV r_.out.2.2,iV r_.st,iV r_.why,iV r_.tr,iV r_.nx,.string (St r_.tag)] 82,z6x4 p l cc,J_ i,Cl c1 [pV wb] 26,z6x3 c2 p l cc,Cl c3 [pV b] 25,z6x2 c4 x0 x1 x2 x3 x4 x5 bt ba cp x9,R]:=(show (relS Y.2 ((r_.out.1,r_.out.2.1,r_.out.2.2):Ky) r_.why)=((stB (⟨bt,ba,cp⟩:Cf) W.now (S,W) l (i+1)).2) from (by rw[hs75]))▸h79
  have h82:sat g w49 [J_ i,(AtB c1 c2 c3 c4 b n wb p cc l S W x0 x1 x2 x3 x4 x5 bt ba cp x9) (i+1),z6x1 r46 r_ a_ W q39 ba cp,Cl r31 [iV r_.out.1,iV r_.out.2.1,uV r_.out.2.2,iV r_.st,iV r_.why,iV r_.tr,iV r_.nx,.string (St r_.tag)] 82,R]:=sat_sw (sat_star (K:= [Cl c1 [pV wb] 26,z6x3 c2 p l cc,Cl c3 [pV b] 25,z6x2 c4 x0 x1 x2 x3 x4 x5 bt ba cp x9,TW b n ((stB (⟨bt,ba,cp⟩:Cf) W.now (S,W) l (i+1)).1),Wd wb ((stB (⟨bt,ba,cp⟩:Cf) W.now (S,W) l (i+1)).2),z6x4 p l cc]) h80.e.e.b.c.i.i.i.i.t11)
  refine go [rd 11 3 2 0 3 h50,rd 11 5 2 4 1 h50] ?_
  refine yY 11 (args:= [Value.agg #[Value.int IntKind.i64 W.now,Value.int IntKind.i64 r_.out.1,Value.int IntKind.i64 r_.out.2.1,Value.int IntKind.u32 r_.out.2.2,Value.int IntKind.i64 r_.why,Value.int IntKind.i64 a_]]) (xa:=(fun i:Nat=> [vAt ((atsB (⟨bt,ba,cp⟩:Cf) W.now (S,W) l).getD i at0)]) i) (by show [vAt ((atsB (⟨bt,ba,cp⟩:Cf) W.now (S,W) l).getD i at0)]=_;rw[getD_some (ats_at hx26),hY_];unfold attB;rw[hr_,ha_];first|done|rfl) (hY i ((List.getElem?_eq_some_iff.1 hx26).1) _ [Cl r46 [Value.int IntKind.i64 ((triX r_ a_ W.now (wtB q39 ba cp)).out.1),Value.int IntKind.i64 ((triX r_ a_ W.now (wtB q39 ba cp)).out.2.1),Value.int IntKind.u32 ((triX r_ a_ W.now (wtB q39 ba cp)).out.2.2),Value.int IntKind.i64 ((triX r_ a_ W.now (wtB q39 ba cp)).st),Value.int IntKind.i64 ((triX r_ a_ W.now (wtB q39 ba cp)).why),Value.int IntKind.i64 ((triX r_ a_ W.now (wtB q39 ba cp)).tr),Value.int IntKind.i64 ((triX r_ a_ W.now (wtB q39 ba cp)).nx),Value.string (St ((triX r_ a_ W.now (wtB q39 ba cp)).tag))] 82,Cl r31 [Value.int IntKind.i64 r_.out.1,Value.int IntKind.i64 r_.out.2.1,Value.int IntKind.u32 r_.out.2.2,Value.int IntKind.i64 r_.st,Value.int IntKind.i64 r_.why,Value.int IntKind.i64 r_.tr,Value.int IntKind.i64 r_.nx,Value.string (St r_.tag)] 82,R] h82) ?_ ?_
  ·
   intro w83 h84
   have h85:sat g w83 [Cl c1 [pV wb] 26,z6x3 c2 p l cc,Cl c3 [pV b] 25,z6x2 c4 x0 x1 x2 x3 x4 x5 bt ba cp x9,TW b n ((stB (⟨bt,ba,cp⟩:Cf) W.now (S,W) l (i+1)).1),Wd wb ((stB (⟨bt,ba,cp⟩:Cf) W.now (S,W) l (i+1)).2),z6x4 p l cc,J_ (i+1),z6x1 r46 r_ a_ W q39 ba cp,Cl r31 [iV r_.out.1,iV r_.out.2.1,uV r_.out.2.2,iV r_.st,iV r_.why,iV r_.tr,iV r_.nx,.string (St r_.tag)] 82,R]:=sat_unstar (sat_sw h84)
   have hlt86:=((List.getElem?_eq_some_iff.1 hx26).1:i<l.length)
   refine go [.v 12 0 (oIr ((i:Int)+1))] ?_
   refine enL ?_
   have h88:=tk9 h85.j.x.x.x.x.x.x.x.h.t11
   change ∃n',n'<_∧_
   refine⟨(l.length-(i+1)),by omega,(i+1),(stB (⟨bt,ba,cp⟩:Cf) W.now (S,W) l (i+1)),_,rfl,rfl,om,(lvF [.k 0 (.func (Fn.yield k_) #[] #[]),.k 1 (pV c1),.k 3 (pV c3),.k 4 (pV c4),.k 6 (iV W.now),.k 19 (.slice p l.length cc),.k 20 (iV (l.length:Int)),.o 21 (oJ .i64 ((i:Int)+1) (((i+1):Nat):Int))]),h88⟩
  intro w89 h90
  have h91:sat g w89 [E_ i,z6x1 r46 r_ a_ W q39 ba cp,Cl r31 [iV r_.out.1,iV r_.out.2.1,uV r_.out.2.2,iV r_.st,iV r_.why,iV r_.tr,iV r_.nx,.string (St r_.tag)] 82,R]:=h90
  have hlt92:=((List.getElem?_eq_some_iff.1 hx26).1:i<l.length)
  refine g0<|up<|g0 ?_
  exact en (.tuple #[]) [] ⟨⟨_,rfl⟩,.inr ⟨i,om,(tk2 h91.c.a.t4)⟩⟩
 refine go [.v 2 0 (oF _ c20)]<|up<|g0 ?_
 have he_:i=l.length:=(by omega)
 have h95:=h19.e.t9
 have h96:sat g w18 [TW b n ((stB (⟨bt,ba,cp⟩:Cf) W.now (S,W) l i).1),J_ i,Cl c1 [pV wb] 26,z6x3 c2 p l cc,Cl c3 [pV b] 25,z6x2 c4 x0 x1 x2 x3 x4 x5 bt ba cp x9,Wd wb Y.2,z6x4 p l cc,R]:=(show Y.1=((stB (⟨bt,ba,cp⟩:Cf) W.now (S,W) l i).1) from (by rw[hY_]))▸h95
 have h97:=h96.f.t9
 have h98:sat g w18 [Wd wb ((stB (⟨bt,ba,cp⟩:Cf) W.now (S,W) l i).2),TW b n ((stB (⟨bt,ba,cp⟩:Cf) W.now (S,W) l i).1),J_ i,Cl c1 [pV wb] 26,z6x3 c2 p l cc,Cl c3 [pV b] 25,z6x2 c4 x0 x1 x2 x3 x4 x5 bt ba cp x9,z6x4 p l cc,R]:=(show Y.2=((stB (⟨bt,ba,cp⟩:Cf) W.now (S,W) l i).2) from (by rw[hY_]))▸h97
 have h100:sat g w18 [J_ i,(AtB c1 c2 c3 c4 b n wb p cc l S W x0 x1 x2 x3 x4 x5 bt ba cp x9) i,R]:=sat_sw (sat_star (K:= [Cl c1 [pV wb] 26,z6x3 c2 p l cc,Cl c3 [pV b] 25,z6x2 c4 x0 x1 x2 x3 x4 x5 bt ba cp x9,TW b n ((stB (⟨bt,ba,cp⟩:Cf) W.now (S,W) l i).1),Wd wb ((stB (⟨bt,ba,cp⟩:Cf) W.now (S,W) l i).2),z6x4 p l cc]) h98.x.a.b.x.x.x.x.t9)
 exact en (.tuple #[]) [] ⟨⟨_,rfl⟩,.inl (he_▸h100)⟩
theorem attempts_ht(b wb:Nat)(p:Option Addr)(cc:Nat)(l:List Int)(x0 x1 x2 x3 x4 x5 bt ba cp x9:Int):HT prog 50 [pV b,pV wb,.agg #[iV x0,iV x1,iV x2,iV x3,iV x4,iV x5,iV bt,iV ba,iV cp,uV x9],.slice p l.length cc] [] (fun v K=> ∃c1 c2 c3 c4:Nat,v= .func (Fn.func 118) #[] #[pV c1,pV c2,pV c3,pV c4]∧K= [Cl c1 [pV wb] 26,Cl c2 [.slice p l.length cc] 37,Cl c3 [pV b] 25,Cl c4 [iV x0,iV x1,iV x2,iV x3,iV x4,iV x5,iV bt,iV ba,iV cp,uV x9] 24]):=by
 refine hiS func50 ntmps50 fun g w0 R h0=>g0<|nP 25 [pV b] h0 (fun r10 _ h12=> ?_)
 refine nP 26 [pV wb] h12 (fun r13 _ h15=> ?_)
 refine nP 24 [iV x0,iV x1,iV x2,iV x3,iV x4,iV x5,iV bt,iV ba,iV cp,uV x9] h15 (fun r16 _ h18=> ?_)
 refine nP 37 [.slice p l.length cc] h18 (fun r19 _ h21=> ?_)
 refine g0 ?_
 exact en (.func (Fn.func 118) #[] #[pV r13,pV r19,pV r10,pV r16]) [] ⟨_,_,rfl,⟨r13,r19,r10,r16,rfl,rfl⟩,h21.c.a.c.t5⟩
theorem appseq_ht(c1 c2 c3 c4 m:Nat)(L:List At)(Am:Nat→Assn)(hL:L.length=m)(hm:m≤10000)(hit:ITA prog 118 [pV c1,pV c2,pV c3,pV c4] m (fun i:Nat=> [vAt (L.getD i at0)]) Am):HT prog 117 [.slice none 0 0,.func (Fn.func 118) #[] #[pV c1,pV c2,pV c3,pV c4]] [Am 0] (fun v K=> ∃(p:Option Addr) (c:Nat),v= .slice p m c∧K= [Sl 74 6 p m c (fl eAt L),Am m]):=by
 refine hiS func117 ntmps117 fun g w0 R h0=>g0<|nP 41 [.slice none 0 0] h0 (fun r10 w11 h12=> ?_)
 have h13:sat g _ (Sl 74 6 none 0 0 (fl eAt [])::_):=sl_nil 74 6 h12
 have h14:sat g _ (Sl 74 6 none 0 0 (fl eAt (L.take 0))::_):=sat_imp h13 (fun _ hh_=>by rw[show ([]:List At)=(L.take 0) from (by simp)] at hh_;exact hh_)
 have h15:=h14.a.t4
 refine g0 ?_
 refine rfS2A (N:=m) (fun i rb_=>([(5,pV rb_),(7,.agg #[iV ((L.getD i at0).at_),iV ((L.getD i at0).out.1),iV ((L.getD i at0).out.2.1),uV ((L.getD i at0).out.2.2),iV ((L.getD i at0).why),iV ((L.getD i at0).ans)])]:Fr)) (fun i rb_ K=> ∃p:Option Addr,∃c:Nat,K= [Cl rb_ [iV ((L.getD i at0).at_),iV ((L.getD i at0).out.1),iV ((L.getD i at0).out.2.1),uV ((L.getD i at0).out.2.2),iV ((L.getD i at0).why),iV ((L.getD i at0).ans)] 74,Cl r10 [.slice p i c] 41,Sl 74 6 p i c (fl eAt (L.take i))]) (fun i K=> ∃p:Option Addr,∃c:Nat,K= [Cl r10 [.slice p i c] 41,Sl 74 6 p i c (fl eAt (L.take i))]) (fun c _ K=>False) call118 hit ⟨none,0,rfl⟩ h15 ?_ ?_ ?_ ?_
 ·
  rintro i hi_ lp_ w16 K_ G ⟨p,c,rfl⟩ h17
  have h18:sat g w16 [Cl r10 [.slice p i c] 41,Sl 74 6 p i c (fl eAt (L.take i)),Am (i+1),G]:=h17
  refine g0<|nP 74 [iV 0,iV 0,iV 0,uV 0,iV 0,iV 0] h18 (fun r19 _ h21=> ?_)
  refine sA [iV ((L.getD i at0).at_),iV ((L.getD i at0).out.1),iV ((L.getD i at0).out.2.1),uV ((L.getD i at0).out.2.2),iV ((L.getD i at0).why),iV ((L.getD i at0).ans)] h21 fun _ h23=>g0 ?_
  exact enA r19 ⟨p,c,rfl⟩ h23
 ·
  rintro i hi26 lp_ w24 rb_ K_ G ⟨p,c,rfl⟩ h25
  have h27:sat g w24 [Cl rb_ [iV ((L.getD i at0).at_),iV ((L.getD i at0).out.1),iV ((L.getD i at0).out.2.1),uV ((L.getD i at0).out.2.2),iV ((L.getD i at0).why),iV ((L.getD i at0).ans)] 74,Cl r10 [.slice p i c] 41,Sl 74 6 p i c (fl eAt (L.take i)),Am (i+1),G]:=h25
  refine go [rd 3 0 1 0 1 h27,rd 3 1 0 0 6 h27]<|nG (fun q_=> .slice (some ⟨q_,0,none⟩) 1 1) 74 [iV ((L.getD i at0).at_),iV ((L.getD i at0).out.1),iV ((L.getD i at0).out.2.1),uV ((L.getD i at0).out.2.2),iV ((L.getD i at0).why),iV ((L.getD i at0).ans)] h27 (fun r28 _ h30=>⟨kd [],?_⟩)
  have h31:=h30.c.t6
  refine actG ?_
  refine aA 11 6 (Ot 8) (Ot 10) (.agg #[iV 0,iV 0,iV 0,uV 0,iV 0,iV 0]) p i c 1 1 (⟨r28,0,none⟩) 48 underlying41 h31 (fl eAt [(⟨(L.getD i at0).at_,((L.getD i at0).out.1,(L.getD i at0).out.2.1,(L.getD i at0).out.2.2),(L.getD i at0).why,(L.getD i at0).ans⟩:At)]) rfl (cell1 h31 rfl) (fl_one eAt_ok _) (i+1) ?_
  intro p32 cap33 w34 h35
  have h36:sat g _ (Sl 74 6 p32 (i+1) cap33 (fl eAt ((L.take i)++ [(⟨(L.getD i at0).at_,((L.getD i at0).out.1,(L.getD i at0).out.2.1,(L.getD i at0).out.2.2),(L.getD i at0).why,(L.getD i at0).ans⟩:At)]))::_):=sJ h35
  obtain⟨hn37,hn38⟩:=sl_le h36
  refine nxA<|sA [.slice p32 (i+1) cap33] h36.c.t6 fun w40 h41=>g0 ?_
  have h43:sat g _ (Sl 74 6 p32 (i+1) cap33 (fl eAt (L.take (i+1)))::_):=sat_imp h41.a.t6 (fun _ hh_=>by rw[show (((L.take i)++ [(⟨(L.getD i at0).at_,((L.getD i at0).out.1,(L.getD i at0).out.2.1,(L.getD i at0).out.2.2),(L.getD i at0).why,(L.getD i at0).ans⟩:At)]):List At)=(L.take (i+1)) from takeB_at om] at hh_;exact hh_)
  exact rbN ⟨p32,cap33,rfl⟩ (tk4 h43.e.e.b.c.t6)
 ·
  rintro D46 w47 K_ ⟨p,c,rfl⟩ h48
  have h49:sat g w47 [pt D46 (Obj.deferred (some [])),Cl r10 [.slice p m c] 41,Sl 74 6 p m c (fl eAt (L.take m)),Am m,R]:=h48
  refine go [rd 4 0 1 0 1 h49] ?_
  have h51:sat g _ (Sl 74 6 p m c (fl eAt L)::_):=sat_imp h49.b.t5 (fun _ hh_=>by rw[show ((L.take m):List At)=L from (List.take_of_length_le om)] at hh_;exact hh_)
  refine enD (.slice p m c) h51.a.t5 (fun _ _=> []) (fun _ h53=> ?_) [] []
  exact⟨_,_,rfl,⟨p,c,rfl,rfl⟩,(tk3 (sf2 (sf2 (sf4 h53.c.b.t5))))⟩
 intro _ _ _ _ _ _ hf_;exact hf_.elim
theorem collect_ht(c1 c2 c3 c4 m:Nat)(L:List At)(Am:Nat→Assn)(hL:L.length=m)(hm:m≤10000)(hit:ITA prog 118 [pV c1,pV c2,pV c3,pV c4] m (fun i:Nat=> [vAt (L.getD i at0)]) Am):HT prog 49 [.func (Fn.func 118) #[] #[pV c1,pV c2,pV c3,pV c4]] [Am 0] (fun v K=> ∃(p:Option Addr) (c:Nat),v= .slice p m c∧K= [Sl 74 6 p m c (fl eAt L),Am m]):=by
 refine hiS func49 ntmps49 fun g w0 R h0=>g0<|cP call117 (appseq_ht c1 c2 c3 c4 m L Am hL hm hit) h0 ?_
 rintro v K _ (⟨p10,c11,rfl,rfl⟩) h13
 have h14:=ap2 h13
 refine g0 ?_
 exact en (.slice p10 m c11) [] ⟨_,_,rfl,⟨p10,c11,rfl,rfl⟩,h14⟩
theorem collect_w(c1 c2 c3 c4 b n wb:Nat)(p:Option Addr)(cc:Nat)(l:List Int)(S:Ts)(W:Wst)(x0 x1 x2 x3 x4 x5 bt ba cp x9:Int)(hb:1≤ba∧ba≤cp∧cp≤1048576)(hrun:RunOk (⟨bt,ba,cp⟩:Cf) W.now (S,W) l)(hll:l.length≤2000):HT prog 49 [Value.func (Fn.func 118) #[] #[Value.pointer (some ⟨c1,0,none⟩),Value.pointer (some ⟨c2,0,none⟩),Value.pointer (some ⟨c3,0,none⟩),Value.pointer (some ⟨c4,0,none⟩)]] [Cl c1 [Value.pointer (some ⟨wb,0,none⟩)] 26,Cl c2 [Value.slice p l.length cc] 37,Cl c3 [Value.pointer (some ⟨b,0,none⟩)] 25,Cl c4 [Value.int IntKind.i64 x0,Value.int IntKind.i64 x1,Value.int IntKind.i64 x2,Value.int IntKind.i64 x3,Value.int IntKind.i64 x4,Value.int IntKind.i64 x5,Value.int IntKind.i64 bt,Value.int IntKind.i64 ba,Value.int IntKind.i64 cp,Value.int IntKind.u32 x9] 24,TW b n S,Wd wb W,Sl 3 1 p l.length cc (fl eI l)] (fun v K=> ∃(p2:Option Addr) (c5:Nat),v=Value.slice p2 l.length c5∧K= [TW b n ((runB (⟨bt,ba,cp⟩:Cf) W.now (S,W) l).1),Wd wb ((runB (⟨bt,ba,cp⟩:Cf) W.now (S,W) l).2),Sl 74 6 p2 l.length c5 (fl eAt (atsB (⟨bt,ba,cp⟩:Cf) W.now (S,W) l))]):=by
 intro g w F hs
 have h1:sat g w ((AtB c1 c2 c3 c4 b n wb p cc l S W x0 x1 x2 x3 x4 x5 bt ba cp x9) 0::F):=sat_star (K:= [Cl c1 [Value.pointer (some ⟨wb,0,none⟩)] 26,Cl c2 [Value.slice p l.length cc] 37,Cl c3 [Value.pointer (some ⟨b,0,none⟩)] 25,Cl c4 [Value.int IntKind.i64 x0,Value.int IntKind.i64 x1,Value.int IntKind.i64 x2,Value.int IntKind.i64 x3,Value.int IntKind.i64 x4,Value.int IntKind.i64 x5,Value.int IntKind.i64 bt,Value.int IntKind.i64 ba,Value.int IntKind.i64 cp,Value.int IntKind.u32 x9] 24,TW b n S,Wd wb W,Sl 3 1 p l.length cc (fl eI l)]) hs
 refine(collect_ht c1 c2 c3 c4 l.length (atsB (⟨bt,ba,cp⟩:Cf) W.now (S,W) l) (AtB c1 c2 c3 c4 b n wb p cc l S W x0 x1 x2 x3 x4 x5 bt ba cp x9) (ats_len _ _ _ _) om (att_it c1 c2 c3 c4 b n wb p cc l S W x0 x1 x2 x3 x4 x5 bt ba cp x9 hb hrun hll) g w F h1).mono ?_
 rintro e w' ⟨v,K,rfl,⟨p2,c5,rfl,rfl⟩,h2⟩
 refine⟨_,_,rfl,⟨p2,c5,rfl,rfl⟩,?_⟩
 have h3:sat g w' ((AtB c1 c2 c3 c4 b n wb p cc l S W x0 x1 x2 x3 x4 x5 bt ba cp x9) l.length::Sl 74 6 p2 l.length c5 (fl eAt (atsB (⟨bt,ba,cp⟩:Cf) W.now (S,W) l))::F):=sat_sw h2
 have h4:=sat_sel_tail (sat_sel_tail (sat_sel_tail (sat_sel_tail (sat_unstar h3))))
 rw[stB_end] at h4
 have h5:=sat_sel_tail (sat_rot (A:= [TW b n (runB (⟨bt,ba,cp⟩:Cf) W.now (S,W) l).1,Wd wb (runB (⟨bt,ba,cp⟩:Cf) W.now (S,W) l).2]) (B:=Sl 3 1 p l.length cc (fl eI l)::Sl 74 6 p2 l.length c5 (fl eAt (atsB (⟨bt,ba,cp⟩:Cf) W.now (S,W) l))::F) h4)
 have h6:=sat_rot (A:=Sl 74 6 p2 l.length c5 (fl eAt (atsB (⟨bt,ba,cp⟩:Cf) W.now (S,W) l))::F) (B:= [TW b n (runB (⟨bt,ba,cp⟩:Cf) W.now (S,W) l).1,Wd wb (runB (⟨bt,ba,cp⟩:Cf) W.now (S,W) l).2]) h5
 exact h6
theorem run_ok(b n wb:Nat)(S:Ts)(W:Wst)(x0 x1 x2 x3 x4 x5 bt ba cp x9:Int)(hc:(1≤bt∧bt≤64)∧(1≤ba∧ba≤cp∧cp≤1048576)∧bkE ba cp=0)(hrun:RunOk (⟨bt,ba,cp⟩:Cf) W.now (S,W) (dueB S W.now bt)):HT prog 12 [pV b,pV wb,.agg #[iV x0,iV x1,iV x2,iV x3,iV x4,iV x5,iV bt,iV ba,iV cp,uV x9]] [TW b n S,Wd wb W] (fun v K=> ∃(p:Option Addr) (c:Nat),v= .tuple #[.slice p ((dueB S W.now bt).length) c,iV 0]∧K= [TW b n ((runB (⟨bt,ba,cp⟩:Cf) W.now (S,W) (dueB S W.now bt)).1),Wd wb ((runB (⟨bt,ba,cp⟩:Cf) W.now (S,W) (dueB S W.now bt)).2),Sl 74 6 p ((dueB S W.now bt).length) c (fl eAt (atsB (⟨bt,ba,cp⟩:Cf) W.now (S,W) (dueB S W.now bt)))]):=by
 refine hiS func12 ntmps12 fun g w0 R h0=> ?_
 have hk_:=wd_ok (j:=1) h0 rfl;have hk1_:=hk_.nl;have hk2_:=hk_.nh;have hrl_:=(tw_ok (j:=0) h0 rfl).rl;have hsl_:(srtB S).length≤S.R.length:=(by rw[srtB_len];exact nums_le S.R 2);have hdl_:=due_le S W.now bt
 refine g0<|nP 24 [iV x0,iV x1,iV x2,iV x3,iV x4,iV x5,iV bt,iV ba,iV cp,uV x9] h0 (fun _ _ h12=> ?_)
 have h13:=h12.a.t4
 refine g0<|cl1 call43 (there_w b n S) h13 fun _ h15=> ?_
 have h17:=h15.b.t4
 refine g0<|cP call47 (wcopy_ht wb W) h17 ?_
 rintro v K _ (⟨b16,rfl,rfl⟩) h19
 have h20:=ap2 h19
 refine go [rd 3 1 3 6 1 h20,.v 3 2 (oF (bt<1)),rd 3 5 3 6 1 h20,.v 3 6 (oF (bt>64)),rd 3 10 3 7 1 h20,rd 3 12 3 8 1 h20]<|cl0 call48 (bkchk_ht ba cp) h20 fun _ h22=>go [.v 3 14 (qnF (bkE ba cp) 0)]<|dw (fls [0,1,3,4] (Tr.an 2 (Tr.an 5 (fls [6,7,8,9,10] Tr.nil)))) h22 fun _ h24=>go [rd 5 4 3 6 1 h24]<|cw1 call38 (wnow_ht wb W) h24 fun _ h26=>⟨kd [rd 0 4 3 6 1 h26],?_⟩
 refine cG call11 (due_w b n S W.now bt om) h26.b.t5 ?_
 rintro v K _ (⟨p27,c28,rfl,rfl⟩) h31
 have h32:=ap2 h31
 refine⟨kd [],?_⟩
 refine go [rd 8 2 4 0 10 h32]<|cP call50 (attempts_ht b wb p27 c28 (dueB S W.now bt) x0 x1 x2 x3 x4 x5 bt ba cp x9) h32 ?_
 rintro v K _ (⟨b33,b34,b35,b36,rfl,rfl⟩) h38
 refine cP call49 (collect_w b33 b34 b35 b36 b n wb p27 c28 (dueB S W.now bt) S W x0 x1 x2 x3 x4 x5 bt ba cp x9 om hrun om) ((ap4 h38).f.e.e.e.e.e.t10) ?_
 rintro v K _ (⟨p40,c41,rfl,rfl⟩) h44
 have h45:=ap3 h44
 refine g0 ?_
 exact en (.tuple #[.slice p40 ((dueB S W.now bt).length) c41,iV 0]) [] ⟨_,_,rfl,⟨p40,c41,rfl,rfl⟩,h45.E.D.t4⟩
theorem run_arg(b n wb:Nat)(S:Ts)(W:Wst)(x0 x1 x2 x3 x4 x5 bt ba cp x9:Int)(hc:bt<1∨64<bt∨1≤bkE ba cp):HQ 12 [pV b,pV wb,.agg #[iV x0,iV x1,iV x2,iV x3,iV x4,iV x5,iV bt,iV ba,iV cp,uV x9]] [TW b n S,Wd wb W] (.tuple #[.slice none 0 0,iV 2]) [TW b n S,Wd wb W]:=by
 refine hiS func12 ntmps12 fun g w0 R h0=> ?_
 have hk_:=wd_ok (j:=1) h0 rfl;have hk1_:=hk_.nl;have hk2_:=hk_.nh;have hrl_:=(tw_ok (j:=0) h0 rfl).rl;have hsl_:(srtB S).length≤S.R.length:=(by rw[srtB_len];exact nums_le S.R 2);have hdl_:=due_le S W.now bt
 refine g0<|nP 24 [iV x0,iV x1,iV x2,iV x3,iV x4,iV x5,iV bt,iV ba,iV cp,uV x9] h0 (fun _ _ h12=> ?_)
 have h13:=h12.a.t4
 refine g0<|cl1 call43 (there_w b n S) h13 fun _ h15=> ?_
 have h17:=h15.b.t4
 refine g0<|cP call47 (wcopy_ht wb W) h17 ?_
 rintro v K _ (⟨b16,rfl,rfl⟩) h19
 have h20:=ap2 h19
 refine go [rd 3 1 3 6 1 h20,.s 3 2] ?_
 by_cases c21:bt<1
 ·
  refine go [.v 3 2 (oT _ c21)] ?_
  exact enR _ [] (tk3 (sf2 (sf2 (sf4 h20.b.t5))))
 refine go [.v 3 2 (oF _ c21),rd 3 5 3 6 1 h20,.s 3 6] ?_
 by_cases c24:bt>64
 ·
  refine go [.v 3 6 (oT _ c24)] ?_
  exact enR _ [] (tk3 (sf2 (sf2 (sf4 h20.b.t5))))
 refine go [.v 3 6 (oF _ c24),rd 3 10 3 7 1 h20,rd 3 12 3 8 1 h20]<|cl0 call48 (bkchk_ht ba cp) h20 fun _ h28=>go [.v 3 14 (qnT (bkE ba cp) 0)] ?_
 exact enR _ [] (tk3 (sf2 (sf2 (sf4 h28.b.t5))))
theorem run_w(b n wb:Nat)(S:Ts)(W:Wst)(x0 x1 x2 x3 x4 x5 bt ba cp x9:Int)(hrun:cfgE (⟨bt,ba,cp⟩:Cf)=0→RunOk (⟨bt,ba,cp⟩:Cf) W.now (S,W) (dueB S W.now bt)):HT prog 12 [Value.pointer (some ⟨b,0,none⟩),Value.pointer (some ⟨wb,0,none⟩),Value.agg #[Value.int IntKind.i64 x0,Value.int IntKind.i64 x1,Value.int IntKind.i64 x2,Value.int IntKind.i64 x3,Value.int IntKind.i64 x4,Value.int IntKind.i64 x5,Value.int IntKind.i64 bt,Value.int IntKind.i64 ba,Value.int IntKind.i64 cp,Value.int IntKind.u32 x9]] [TW b n S,Wd wb W] (fun v K=> ∃(p:Option Addr) (c:Nat),v=Value.tuple #[Value.slice p ((rnL (⟨bt,ba,cp⟩:Cf) (S,W)).length) c,Value.int IntKind.i64 (cfgE (⟨bt,ba,cp⟩:Cf))]∧K= [TW b n ((rnS (⟨bt,ba,cp⟩:Cf) (S,W)).1),Wd wb ((rnS (⟨bt,ba,cp⟩:Cf) (S,W)).2),Sl 74 6 p ((rnL (⟨bt,ba,cp⟩:Cf) (S,W)).length) c (fl eAt (rnL (⟨bt,ba,cp⟩:Cf) (S,W)))]):=by
 by_cases hc:cfgE (⟨bt,ba,cp⟩:Cf)=0
 · have hr:=hrun hc
   have h1:bt<1∨64<bt∨bkE ba cp≠0→False:=fun h=>by
    unfold cfgE at hc
    rw[if_pos h] at hc
    cases hc
   have h2:bkE ba cp=0:=Decidable.byContradiction fun h=>h1 (.inr (.inr h))
   have h3:1≤ba∧ba≤cp∧cp≤1048576:=by
    unfold bkE at h2
    split at h2
    · cases h2
    · omega
   have h4:1≤bt∧bt≤64:=⟨Decidable.byContradiction fun h=>h1 (.inl om),Decidable.byContradiction fun h=>h1 (.inr (.inl om))⟩
   unfold rnS rnL
   rw[if_pos hc,if_pos hc,hc,ats_len]
   exact run_ok b n wb S W x0 x1 x2 x3 x4 x5 bt ba cp x9 ⟨h4,h3,h2⟩ hr
 · have h1:bt<1∨64<bt∨bkE ba cp≠0:=Decidable.byContradiction fun h=>hc (if_neg h)
   have h2:cfgE (⟨bt,ba,cp⟩:Cf)=2:=if_pos h1
   have h3:bkE ba cp=0∨bkE ba cp=2:=by
    unfold bkE
    split
    · exact .inr rfl
    · exact .inl rfl
   unfold rnS rnL
   rw[if_neg hc,if_neg hc,h2]
   refine(run_arg b n wb S W x0 x1 x2 x3 x4 x5 bt ba cp x9 om).post fun v K hP=> ?_
   obtain⟨rfl,rfl⟩:=hP
   exact⟨_,⟨none,0,rfl,rfl⟩,fun g w F hs=>sat_rot (A:=Sl 74 6 none 0 0 (fl eAt [])::F) (B:= [TW b n S,Wd wb W]) (sl_nil 74 6 (sat_rot (A:= [TW b n S,Wd wb W]) (B:=F) hs))⟩
section
structure Tn where
 k:Int
 n:Int
def eTn(t:Tn):List Value:= [.int .u8 t.k,.int .u16 t.n]
theorem eTn_ok:Enc 2 eTn:=⟨fun _=>rfl,fun x v hv=>by simp[eTn] at hv;rcases hv with rfl |rfl<;>rfl⟩
def TnOk(t:Tn):Prop:=(0≤t.k∧t.k≤255)∧0≤t.n∧t.n≤65535
def whK(n:Int):Int:=n%3+1
def whX(n:Int):Int:=n/3%200+1
def opnP(X:Pw)(n at_:Int):Pw:=
 (if acqE X.2 (whK n) (whX n)=0 then opnS X.1 (acqO X.2 (whK n) (whX n)) [116] (at_%256,at_/256+1) else X.1,acqS X.2 (whK n) (whX n))
def shK(S:Ts)(n:Int):Int:=n%(S.R.length:Int)+1
def shuP(X:Pw)(n:Int):Pw:=
 (if X.1.R.length=0 then X.1 else if (getR X.1 (shK X.1 n)).st=1 then setS (expS X.1 (shK X.1 n)) (shK X.1 n) (cloR (getR X.1 (shK X.1 n)) (n/7%3+1) X.2.now) else X.1,X.2)
def ansF:Nat→Int→Int→List UInt8
 |0,_,_=> []
 |f+1,i,n=>if i<n%7 then ([111,108,108,108,102]:List UInt8).getD (n/7%5).toNat 0::ansF f (i+1) (n/2+3) else []
def ansW(n:Int):List UInt8:=ansF 8 0 n
theorem ansF_cap: ∀(f:Nat) (i n:Int),0≤i→((ansF f i n).length:Int)+i≤6∨(ansF f i n)= []
 |0,_,_,_=> .inr rfl
 |f+1,i,n,hi=>by
  unfold ansF
  split
  · rename_i h
    left
    have h1:n%7<7:=Int.emod_lt_of_pos _ dc
    rw[List.length_cons]
    rcases ansF_cap f (i+1) (n/2+3) om with h2|h2
    · omega
    · rw[h2]
      simp
      omega
  · exact .inr rfl
theorem ansW_len(n:Int):(ansW n).length≤6:=by
 rcases ansF_cap 8 0 n (Int.le_refl _) with h|h
 · unfold ansW
   omega
 · unfold ansW
   rw[h]
   exact Nat.zero_le _
theorem ansF_go{f:Nat}{i n:Int}{acc L0:List UInt8}{x:UInt8}(h:L0=acc++ansF (f+1) i n)(hi:i<n%7)(hx:([111,108,108,108,102]:List UInt8)[(n/7%5).toNat]? =some x):L0=(acc++ [x])++ansF f (i+1) (n/2+3):=by
 have h2:([111,108,108,108,102]:List UInt8).getD (n/7%5).toNat 0=x:=by
  rw[List.getD_eq_getElem?_getD,hx]
  rfl
 rw[h,List.append_assoc]
 show acc++(if i<n%7 then ([111,108,108,108,102]:List UInt8).getD (n/7%5).toNat 0::ansF f (i+1) (n/2+3) else [])=_
 rw[if_pos hi,h2]
 rfl
theorem ansF_end{f:Nat}{i n:Int}{acc L0:List UInt8}(h:L0=acc++ansF f i n)(hi: ¬i<n%7):acc=L0:=by
 rw[h]
 cases f with
 |zero=>exact(List.append_nil _).symm
 |succ f=>
  unfold ansF
  rw[if_neg hi,List.append_nil]
structure Md where
 now:Int
 due:List Int
 was:List Rs
 is:List Rs
 tr:List At
 inl:List At
def stepP(c:Cf)(X:Pw)(i:Nat)(t:Tn):Pw:=
 if t.k%8=0∨t.k%8=1 then opnP X t.n (i:Int) else if t.k%8=2∨t.k%8=3 then shuP X t.n else if t.k%8=4 then (X.1,tckS X.2 (t.n%300+1)) else if t.k%8=5 then (X.1,aswS X.2 (ansW t.n)) else rnS c X
def isRun(t:Tn):Prop:=6≤t.k%8
instance (t:Tn):Decidable (isRun t):=by unfold isRun;infer_instance
def ts0:Ts:=⟨List.replicate 64 (0,1),[],[]⟩
def plP(c:Cf)(T:List Tn):Nat→Pw
 |0=>(ts0,wnew 1)
 |i+1=>match T[i]? with
  |some t=>stepP c (plP c T i) i t
  |none=>plP c T i
theorem plP_go{c:Cf}{T:List Tn}{i:Nat}{t:Tn}(h:T[i]? =some t):plP c T (i+1)=stepP c (plP c T i) i t:=by
 show (match T[i]? with |some t=>stepP c (plP c T i) i t|none=>plP c T i)=_
 rw[h]
section
variable {c : Cf} {X : Pw} {i : Nat} {t : Tn}
theorem step_opn(h:t.k%8=0∨t.k%8=1):stepP c X i t=opnP X t.n (i:Int):=if_pos h
theorem step_shu(h:t.k%8=2∨t.k%8=3):stepP c X i t=shuP X t.n:=by
 unfold stepP
 rw[if_neg om,if_pos h]
theorem step_tck(h:t.k%8=4):stepP c X i t=(X.1,tckS X.2 (t.n%300+1)):=by
 unfold stepP
 rw[if_neg om,if_neg om,if_pos h]
theorem step_asw(h:t.k%8=5):stepP c X i t=(X.1,aswS X.2 (ansW t.n)):=by
 unfold stepP
 rw[if_neg om,if_neg om,if_neg om,if_pos h]
theorem step_run(h:isRun t):stepP c X i t=rnS c X:=by
 unfold isRun at h
 unfold stepP
 rw[if_neg om,if_neg om,if_neg om,if_neg om]
end
def PlOk(c:Cf)(T:List Tn):Prop:= ∀(i:Nat) (t:Tn),T[i]? =some t→isRun t→RunOk c (plP c T i).2.now (plP c T i) (dueB (plP c T i).1 (plP c T i).2.now c.bt)
end
theorem acqO_bd{S:Wst}(hW:WOk S)(k a:Int):0≤(acqO S k a).2.2∧(acqO S k a).2.2≤4294967295:=by
 by_cases h:acqE S k a=0
 · exact thr_gen (wok_acq hW k a) (acq_thr hW h).1
 · unfold acqO
   rw[if_neg h]
   exact⟨by decide,by decide⟩
end Go.Proofs.YtehlamblpekmkaaGreatDoor
