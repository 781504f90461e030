/- Walks, printed by my generator P:../bat/q1.py. -/
import Derived.Test.YtcgkoffnknpgjaaGreatDoorSrix
import Derived.Test.YtcgkoffnknpgjaaGreatDoorBundle39x
namespace Go.Proofs.YtcgkoffnknpgjaaGreatDoor
set_option linter.unusedVariables false
set_option linter.unusedSimpArgs false
open Tryz
set_option maxHeartbeats 4000000
theorem Us(za:Int):HQ 125 [iV za] [] (bF) []:=by
 refine AC func125 ntmps125 fun g w0 R h0=>go [.v 1 2 (Db za za)] ?_
 exact AD _ [] h0
theorem iY(za zb:Int):HQ 53 [iV za,iV zb] [] (iV (Fm za zb)) []:=by
 refine AC func53 ntmps53 fun g w0 R h0=>g0<|AP call125 (Us za) h0 fun _ d=>g0<|AP call125 (Us zb) d fun _ a=>go [.s 9 2] ?_
 by_cases b:za<zb
 ·
  refine go [.v 9 2 (oT _ b)] ?_
  exact en (iV (-1)) [] ⟨_,_,rfl,⟨by unfold Fm;rw[if_pos om],rfl⟩,a⟩
 refine go [.v 9 2 (oF _ b),.s 11 2] ?_
 by_cases c:za>zb
 ·
  refine go [.v 11 2 (oT _ c)] ?_
  exact en (iV 1) [] ⟨_,_,rfl,⟨by unfold Fm;rw[if_neg om,if_pos om],rfl⟩,a⟩
 refine go [.v 11 2 (oF _ c)] ?_
 exact en (iV 0) [] ⟨_,_,rfl,⟨by unfold Fm;rw[if_neg om,if_neg om],rfl⟩,a⟩
theorem My(za:Int):HQ 451 [iV za] [] (bF) []:=by
 refine AC func451 ntmps451 fun g w0 R h0=>go [.v 1 2 (Db za za)] ?_
 exact AD _ [] h0
theorem WT(za zb:Int):HQ 417 [iV za,iV zb] [] (iV (Fm za zb)) []:=by
 refine AC func417 ntmps417 fun g w0 R h0=>g0<|AP call451 (My za) h0 fun _ d=>g0<|AP call451 (My zb) d fun _ a=>go [.s 9 2] ?_
 by_cases b:za<zb
 ·
  refine go [.v 9 2 (oT _ b)] ?_
  exact en (iV (-1)) [] ⟨_,_,rfl,⟨by unfold Fm;rw[if_pos om],rfl⟩,a⟩
 refine go [.v 9 2 (oF _ b),.s 11 2] ?_
 by_cases c:za>zb
 ·
  refine go [.v 11 2 (oT _ c)] ?_
  exact en (iV 1) [] ⟨_,_,rfl,⟨by unfold Fm;rw[if_neg om,if_pos om],rfl⟩,a⟩
 refine go [.v 11 2 (oF _ c)] ?_
 exact en (iV 0) [] ⟨_,_,rfl,⟨by unfold Fm;rw[if_neg om,if_neg om],rfl⟩,a⟩
theorem vS(r:Nat)(za zb:Int):HQ 416 [.slice (some ⟨r,0,none⟩) 2 2] [Cl r [iV za,iV zb] 3] (iV (if za≠0 then za else zb)) [Cl r [iV za,iV zb] 3]:=by
 refine AC func416 ntmps416 fun g w0 R a=>go [.v 2 1 (oJ .i64 (2:Int) 2)]<|DS 2<|go [.s 4 0]<|AS (pV r) (D5 (Ot 6) (Ot 8) r 0 0 2 2 underlying134 1 0 0)<|go [rd 4 1 0 0 1 a,.s 5 2] ?_
 by_cases b:za=0
 ·
  refine go [.v 5 2 (Db za 0)]<|Bm<|go [.s 4 0]<|AS (.pointer (some ⟨r,1,none⟩)) (D5 (Ot 6) (Ot 8) r 0 1 2 2 underlying134 1 1 1)<|go [rd 4 1 0 1 1 a,.s 5 2] ?_
  by_cases c:zb=0
  ·
   refine go [.v 5 2 (Db zb 0)]<|Bm<|g0<|up<|g0 ?_
   exact en (iV 0) [] ⟨_,_,rfl,⟨by rw[show (if za≠0 then za else zb)=0 from by split<;>omega],rfl⟩,a⟩
  refine go [.v 5 2 (Tc zb 0)]<|up<|g0 ?_
  exact en (iV zb) [] ⟨_,_,rfl,⟨by rw[show (if za≠0 then za else zb)=zb from by split<;>omega],rfl⟩,a⟩
 refine go [.v 5 2 (Tc za 0)]<|up<|g0 ?_
 exact en (iV za) [] ⟨_,_,rfl,⟨by rw[show (if za≠0 then za else zb)=za from by split<;>omega],rfl⟩,a⟩
theorem Mz(W:World)(b ts tm tc:Nat)(p:Option Addr)(S:Ts)(c:W.cell? ⟨b,0,none⟩=some (.pointer (some ⟨ts,0,none⟩)))(a:W.cell? ⟨b,1,none⟩=some (.map (some tm)))(d:W.cell? ⟨b,2,none⟩=some (.slice p S.R.length tc))(hR:Rd W p S.R.length (fl DG S.R))(hrl:S.R.length≤2000):HQ 119 [pV b] [I5 W] (bT) [I5 W]:=by
 refine AC func119 ntmps119 fun g w0 R e=>go [.r 1 6 b 1 [.map (some tm)] ⟨CY e 0 rfl a,trivial⟩] ?_
 exact AD _ [] e
theorem WU(W:World)(b ts tm tc:Nat)(p:Option Addr)(S:Ts)(c:W.cell? ⟨b,0,none⟩=some (.pointer (some ⟨ts,0,none⟩)))(d:W.cell? ⟨b,1,none⟩=some (.map (some tm)))(a:W.cell? ⟨b,2,none⟩=some (.slice p S.R.length tc))(hR:Rd W p S.R.length (fl DG S.R))(hrl:S.R.length≤2000)(vn:Int)(h:1≤vn∧vn≤(S.R.length:Int)):HQ 284 [pV b,iV vn] [I5 W] (iV 0) [I5 W]:=by
 refine AC func284 ntmps284 fun g w0 R h0=>g0<|AF call119 (Mz W b ts tm tc p S c d a hR hrl) h0 fun _ e=>go [.v 3 1 (oF (vn<1)),.r 3 7 b 2 [.slice p S.R.length tc] ⟨CY e 0 rfl a,trivial⟩,.v 3 9 (oF (vn>(S.R.length:Int)))] ?_
 exact AD _ [] e
theorem WV(W:World)(b ts tm tc:Nat)(p:Option Addr)(S:Ts)(c:W.cell? ⟨b,0,none⟩=some (.pointer (some ⟨ts,0,none⟩)))(d:W.cell? ⟨b,1,none⟩=some (.map (some tm)))(a:W.cell? ⟨b,2,none⟩=some (.slice p S.R.length tc))(hR:Rd W p S.R.length (fl DG S.R))(hrl:S.R.length≤2000)(vn:Int)(h:vn<1∨(S.R.length:Int)<vn):HQ 284 [pV b,iV vn] [I5 W] (iV 3) [I5 W]:=by
 refine AC func284 ntmps284 fun g w0 R h0=>g0<|AF call119 (Mz W b ts tm tc p S c d a hR hrl) h0 fun _ e=>go [.s 3 1] ?_
 by_cases f:vn<1
 ·
  refine go [.v 3 1 (oT _ f)] ?_
  exact AD _ [] e
 refine go [.v 3 1 (oF _ f),.r 3 7 b 2 [.slice p S.R.length tc] ⟨CY e 0 rfl a,trivial⟩,.v 3 9 (oT (vn>(S.R.length:Int)))] ?_
 exact AD _ [] e
theorem iZ(W:World)(b ts tm tc:Nat)(p:Option Addr)(S:Ts)(c:W.cell? ⟨b,0,none⟩=some (.pointer (some ⟨ts,0,none⟩)))(d:W.cell? ⟨b,1,none⟩=some (.map (some tm)))(e:W.cell? ⟨b,2,none⟩=some (.slice p S.R.length tc))(hR:Rd W p S.R.length (fl DG S.R))(hrl:S.R.length≤2000)(vn:Int)(h:vn<1∨(S.R.length:Int)<vn):HQ 210 [pV b,iV vn] [I5 W] (.tuple #[.agg #[iV 0,iV 0,uV 0,iV 0,iV 0,iV 0,iV 0,sV []],iV 3]) [I5 W]:=by
 refine AC func210 ntmps210 fun g w0 R h0=>g0<|nP 226 [iV 0,iV 0,uV 0,iV 0,iV 0,iV 0,iV 0,sV []] h0 (fun _ _ i=> ?_)
 have j:=i.a.t3
 refine g0<|AF call284 (WV W b ts tm tc p S c d e hR hrl vn om) j fun _ k=> ?_
 have l:=k.a.t3
 refine g0<|sA [iV 0,iV 0,uV 0,iV 0,iV 0,iV 0,iV 0,sV []] l fun _ f=>g0 ?_
 exact AD _ [rd 0 0 0 0 8 f] f.a.t3.b.a.t2
theorem jA(W:World)(b ts tm tc:Nat)(p:Option Addr)(S:Ts)(d:W.cell? ⟨b,0,none⟩=some (.pointer (some ⟨ts,0,none⟩)))(e:W.cell? ⟨b,1,none⟩=some (.map (some tm)))(c:W.cell? ⟨b,2,none⟩=some (.slice p S.R.length tc))(hR:Rd W p S.R.length (fl DG S.R))(hrl:S.R.length≤2000)(vn:Int)(q:Nat)(r:Rs)(hr:S.R[q]? =some r)(hv:vn=(q:Int)+1):HQ 210 [pV b,iV vn] [I5 W] (.tuple #[.agg #[iV r.out.1,iV r.out.2.1,uV r.out.2.2,iV r.st,iV r.why,iV r.tr,iV r.nx,sV r.tag],iV 0]) [I5 W]:=by
 refine AC func210 ntmps210 fun g w0 R h0=> ?_
 have hq_:=(List.getElem?_eq_some_iff.1 hr).1
 refine g0<|nP 226 [iV 0,iV 0,uV 0,iV 0,iV 0,iV 0,iV 0,sV []] h0 (fun _ _ o=> ?_)
 have t:=o.a.t3
 refine g0<|AF call284 (WU W b ts tm tc p S d e c hR hrl vn om) t fun _ i=> ?_
 obtain⟨l,f,k⟩:=F4 (j:=0) i rfl (FR hR) om
 refine go [.r 4 3 b 2 [.slice p S.R.length tc] ⟨CY i 0 rfl c,trivial⟩,.v 4 5 (CD (vn-1)),.s 4 6]<|AS (.pointer (some ⟨l,f+q*8,none⟩)) (Ft (Ot 17) (Ot 19) p l f (vn-1) S.R.length tc underlying175 8 q k (f+q*8)) ?_
 have u:=i.a.t3
 refine go [.r 4 7 l (f+q*8) [iV r.out.1,iV r.out.2.1,uV r.out.2.2,iV r.st,iV r.why,iV r.tr,iV r.nx,sV r.tag] ⟨Cn (j:=0) i rfl (FR hR) k (Cq Ah (j:=0) (v:=iV r.out.1) hr rfl) (f+q*8) om,Cn (j:=0) i rfl (FR hR) k (Cq Ah (j:=1) (v:=iV r.out.2.1) hr rfl) (f+q*8+1) om,Cn (j:=0) i rfl (FR hR) k (Cq Ah (j:=2) (v:=uV r.out.2.2) hr rfl) (f+q*8+2) om,Cn (j:=0) i rfl (FR hR) k (Cq Ah (j:=3) (v:=iV r.st) hr rfl) (f+q*8+3) om,Cn (j:=0) i rfl (FR hR) k (Cq Ah (j:=4) (v:=iV r.why) hr rfl) (f+q*8+4) om,Cn (j:=0) i rfl (FR hR) k (Cq Ah (j:=5) (v:=iV r.tr) hr rfl) (f+q*8+5) om,Cn (j:=0) i rfl (FR hR) k (Cq Ah (j:=6) (v:=iV r.nx) hr rfl) (f+q*8+6) om,Cn (j:=0) i rfl (FR hR) k (Cq Ah (j:=7) (v:= sV r.tag) hr rfl) (f+q*8+7) om,trivial⟩]<|sA [iV r.out.1,iV r.out.2.1,uV r.out.2.2,iV r.st,iV r.why,iV r.tr,iV r.nx,sV r.tag] u fun _ m=>g0 ?_
 exact AD _ [rd 0 0 0 0 8 m] m.a.t3.b.a.t2
theorem jB(W:World)(b ts tm tc:Nat)(p:Option Addr)(S:Ts)(a:W.cell? ⟨b,0,none⟩=some (.pointer (some ⟨ts,0,none⟩)))(c:W.cell? ⟨b,1,none⟩=some (.map (some tm)))(d:W.cell? ⟨b,2,none⟩=some (.slice p S.R.length tc))(hR:Rd W p S.R.length (fl DG S.R))(hrl:S.R.length≤2000)(vn:Int):HQ 210 [pV b,iV vn] [I5 W] (.tuple #[.agg #[iV ((AZ S vn).out.1),iV ((AZ S vn).out.2.1),uV ((AZ S vn).out.2.2),iV ((AZ S vn).st),iV ((AZ S vn).why),iV ((AZ S vn).tr),iV ((AZ S vn).nx),sV ((AZ S vn).tag)],iV (nE S vn)]) [I5 W]:=by
 unfold nE
 by_cases h:1≤vn∧vn≤(S.R.length:Int)
 · rw[if_pos h]
   exact jA W b ts tm tc p S a c d hR hrl vn (vn-1).toNat (AZ S vn) (Gc h) om
 · rw[if_neg h,T9 h]
   exact iZ W b ts tm tc p S a c d hR hrl vn om
theorem Qm(W:World)(b ts tm tc:Nat)(p:Option Addr)(S:Ts)(c:W.cell? ⟨b,0,none⟩=some (.pointer (some ⟨ts,0,none⟩)))(d:W.cell? ⟨b,1,none⟩=some (.map (some tm)))(e:W.cell? ⟨b,2,none⟩=some (.slice p S.R.length tc))(hR:Rd W p S.R.length (fl DG S.R))(hrl:S.R.length≤2000)(c1:Nat)(j:W.cell? ⟨c1,0,none⟩=some (.pointer (some ⟨b,0,none⟩)))(vn:Int):HQ 413 [iV vn,pV c1] [I5 W] (iV (H2 S vn)) [I5 W]:=by
 refine AC func413 ntmps413 fun g w0 R f=>go [.r 1 0 c1 0 [pV b] ⟨CY f 0 rfl j,trivial⟩]<|AF call210 (jB W b ts tm tc p S c d e hR hrl vn) f fun _ k=>g0<|nP 226 [iV 0,iV 0,uV 0,iV 0,iV 0,iV 0,iV 0,sV []] k (fun _ _ l=> ?_)
 refine sA [iV ((AZ S vn).out.1),iV ((AZ S vn).out.2.1),uV ((AZ S vn).out.2.2),iV ((AZ S vn).st),iV ((AZ S vn).why),iV ((AZ S vn).tr),iV ((AZ S vn).nx),sV ((AZ S vn).tag)] l fun _ i=>go [rd 2 1 0 6 1 i] ?_
 exact AD (iV ((AZ S vn).nx)) [] i.a.t3.b.a.t2
theorem Zx(W:World)(b ts tm tc:Nat)(p:Option Addr)(S:Ts)(c:W.cell? ⟨b,0,none⟩=some (.pointer (some ⟨ts,0,none⟩)))(d:W.cell? ⟨b,1,none⟩=some (.map (some tm)))(e:W.cell? ⟨b,2,none⟩=some (.slice p S.R.length tc))(hR:Rd W p S.R.length (fl DG S.R))(hrl:S.R.length≤2000)(c1:Nat)(k:W.cell? ⟨c1,0,none⟩=some (.pointer (some ⟨b,0,none⟩)))(f:Nat)(i:W.cell? ⟨f,0,none⟩=some (.func (Fn.func 413) #[] #[pV c1]))(za zb:Int):HQ 415 [iV za,iV zb,pV f] [I5 W] (iV (lD S za zb)) [I5 W]:=by
 refine AC func415 ntmps415 fun g w0 R h0=>g0<|dw (AE [0,1,3,4,7,8] (Tr.an 2 (Tr.an 5 (Tr.an 6 (Tr.an 9 (Tr.an 10 (Tr.an 11 (Tr.fl 12 Tr.nil)))))))) h0 fun _ j=>go [.r 1 0 f 0 [.func (Fn.func 413) #[] #[pV c1]] ⟨CY j 0 rfl i,trivial⟩,.r 1 3 f 0 [.func (Fn.func 413) #[] #[pV c1]] ⟨CY j 0 rfl i,trivial⟩]<|BZ call413 (Qm W b ts tm tc p S c d e hR hrl c1 k za) j fun _ l=>⟨kd [.r 0 3 f 0 [.func (Fn.func 413) #[] #[pV c1]] ⟨CY l 0 rfl i,trivial⟩],?_⟩
 refine BZ call413 (Qm W b ts tm tc p S c d e hR hrl c1 k zb) l fun _ m=>⟨kd [],?_⟩
 refine CJ call417 (WT (H2 S za) (H2 S zb)) m fun _ o=>⟨kd [],?_⟩
 refine CJ call53 (iY za zb) o fun _ q=>⟨kd [],?_⟩
 refine nG (fun q_=> .slice (some ⟨q_,0,none⟩) 2 2) 3 [iV (Fm (H2 S za) (H2 S zb)),iV (Fm za zb)] q (fun s _ t=>⟨kd [],?_⟩)
 refine BZ call416 (vS s (Fm (H2 S za) (H2 S zb)) (Fm za zb)) t fun _ u=>⟨kd [],?_⟩
 refine g0 ?_
 exact AD (iV (if (Fm (H2 S za) (H2 S zb))≠0 then (Fm (H2 S za) (H2 S zb)) else (Fm za zb))) [] u.a.t3.b.a.t2
def Zy:Go.Shelf.Ren:=⟨fun |6=>414|14=>450|15=>124|20=>470|21=>471|22=>472|23=>473|24=>474|25=>475|26=>476|27=>477|28=>192|29=>193|46=>493|47=>255|48=>256|49=>494|50=>495|57=>502|n=>n,fun |22=>134|24=>3|25=>129|3=>3|39=>231|0=>0|53=>24|55=>333|4=>4|46=>325|45=>324|50=>329|5=>5|9=>9|66=>397|70=>189|76=>459|77=>424|n=>n,fun n=>n⟩
theorem Zz:SlLaysF.n6 prog Zy where
 mixed:=by kernel_rfl
 f6:=⟨ "slices.SortFunc[[]int,int]",by decide,func414.trans (congrArg some kr)⟩
 f14:=⟨ "slices.pdqsortCmpFunc[int]",by decide,func450.trans (congrArg some kr)⟩
 f15:=func124.trans (congrArg some kr)
 f20:=⟨ "slices.insertionSortCmpFunc[int]",by decide,func470.trans (congrArg some kr)⟩
 f21:=⟨ "slices.heapSortCmpFunc[int]",by decide,func471.trans (congrArg some kr)⟩
 f22:=⟨ "slices.breakPatternsCmpFunc[int]",by decide,func472.trans (congrArg some kr)⟩
 f23:=⟨ "slices.choosePivotCmpFunc[int]",by decide,func473.trans (congrArg some kr)⟩
 f24:=⟨ "slices.reverseRangeCmpFunc[int]",by decide,func474.trans (congrArg some kr)⟩
 f25:=⟨ "slices.partialInsertionSortCmpFunc[int]",by decide,func475.trans (congrArg some kr)⟩
 f26:=⟨ "slices.partitionEqualCmpFunc[int]",by decide,func476.trans (congrArg some kr)⟩
 f27:=⟨ "slices.partitionCmpFunc[int]",by decide,func477.trans (congrArg some kr)⟩
 f28:=func192.trans (congrArg some kr)
 f29:=func193.trans (congrArg some kr)
 f46:=⟨ "slices.siftDownCmpFunc[int]",by decide,func493.trans (congrArg some kr)⟩
 f47:=func255.trans (congrArg some kr)
 f48:=func256.trans (congrArg some kr)
 f49:=⟨ "slices.medianAdjacentCmpFunc[int]",by decide,func494.trans (congrArg some kr)⟩
 f50:=⟨ "slices.medianCmpFunc[int]",by decide,func495.trans (congrArg some kr)⟩
 f57:=⟨ "slices.order2CmpFunc[int]",by decide,func502.trans (congrArg some kr)⟩
 t0:=underlying0
 a0:=isAgg0
 z0:=sizeOf0
 v0:=zeroValue0
 t3:=underlying3
 a3:=isAgg3
 z3:=sizeOf3
 v3:=zeroValue3
 t4:=underlying4
 a4:=isAgg4
 z4:=sizeOf4
 v4:=zeroValue4
 t5:=underlying5
 a5:=isAgg5
 z5:=sizeOf5
 v5:=zeroValue5
 t9:=underlying9
 a9:=isAgg9
 z9:=sizeOf9
 v9:=zeroValue9
 t22:=underlying134
 a22:=isAgg134
 z22:=sizeOf134
 v22:=zeroValue134
 t25:=underlying129
 a25:=isAgg129
 z25:=sizeOf129
 v25:=zeroValue129
 t39:=underlying231
 a39:=isAgg231
 z39:=sizeOf231
 v39:=zeroValue231
 t45:=underlying324
 a45:=isAgg324
 z45:=sizeOf324
 v45:=zeroValue324
 t46:=underlying325
 a46:=isAgg325
 z46:=sizeOf325
 v46:=zeroValue325
 t50:=underlying329
 a50:=isAgg329
 z50:=sizeOf329
 v50:=zeroValue329
 t53:=underlying24
 a53:=isAgg24
 z53:=sizeOf24
 v53:=zeroValue24
 t55:=underlying333
 a55:=isAgg333
 z55:=sizeOf333
 v55:=zeroValue333
 t66:=underlying397
 a66:=isAgg397
 z66:=sizeOf397
 v66:=zeroValue397
 t70:=underlying189
 a70:=isAgg189
 z70:=sizeOf189
 v70:=zeroValue189
 t76:=underlying459
 a76:=isAgg459
 z76:=sizeOf459
 v76:=zeroValue459
 t77:=underlying424
 a77:=isAgg424
 z77:=sizeOf424
 v77:=zeroValue424
 a24:=isAgg3
 z24:=sizeOf3
theorem jC:HQ 193 [.int .u64 0] [] (iV 0) []:=by
 refine AC func193 ntmps193 fun g w0 R h0=>go [.v 10 2 (yH 0),.s 10 3]<|AS (yV 0) (G7 (x:=(Operand.const (sV [0,1,2,2,3,3,3,3,4,4,4,4,4,4,4,4,5,5,5,5,5,5,5,5,5,5,5,5,5,5,5,5,6,6,6,6,6,6,6,6,6,6,6,6,6,6,6,6,6,6,6,6,6,6,6,6,6,6,6,6,6,6,6,6,7,7,7,7,7,7,7,7,7,7,7,7,7,7,7,7,7,7,7,7,7,7,7,7,7,7,7,7,7,7,7,7,7,7,7,7,7,7,7,7,7,7,7,7,7,7,7,7,7,7,7,7,7,7,7,7,7,7,7,7,7,7,7,7,8,8,8,8,8,8,8,8,8,8,8,8,8,8,8,8,8,8,8,8,8,8,8,8,8,8,8,8,8,8,8,8,8,8,8,8,8,8,8,8,8,8,8,8,8,8,8,8,8,8,8,8,8,8,8,8,8,8,8,8,8,8,8,8,8,8,8,8,8,8,8,8,8,8,8,8,8,8,8,8,8,8,8,8,8,8,8,8,8,8,8,8,8,8,8,8,8,8,8,8,8,8,8,8,8,8,8,8,8,8,8,8,8,8,8,8,8,8,8,8,8,8,8,8,8,8,8,8]))) (i:=Ot 21) (k:= .u8) (s:= [0,1,2,2,3,3,3,3,4,4,4,4,4,4,4,4,5,5,5,5,5,5,5,5,5,5,5,5,5,5,5,5,6,6,6,6,6,6,6,6,6,6,6,6,6,6,6,6,6,6,6,6,6,6,6,6,6,6,6,6,6,6,6,6,7,7,7,7,7,7,7,7,7,7,7,7,7,7,7,7,7,7,7,7,7,7,7,7,7,7,7,7,7,7,7,7,7,7,7,7,7,7,7,7,7,7,7,7,7,7,7,7,7,7,7,7,7,7,7,7,7,7,7,7,7,7,7,7,8,8,8,8,8,8,8,8,8,8,8,8,8,8,8,8,8,8,8,8,8,8,8,8,8,8,8,8,8,8,8,8,8,8,8,8,8,8,8,8,8,8,8,8,8,8,8,8,8,8,8,8,8,8,8,8,8,8,8,8,8,8,8,8,8,8,8,8,8,8,8,8,8,8,8,8,8,8,8,8,8,8,8,8,8,8,8,8,8,8,8,8,8,8,8,8,8,8,8,8,8,8,8,8,8,8,8,8,8,8,8,8,8,8,8,8,8,8,8,8,8,8,8,8,8,8,8,8]) (z:=0) (b:=0) kr underlying9 kr kr 0 om rfl _)<|go [.v 10 4 (CD 0)] ?_
 exact AD _ [] h0
theorem vT:HQ 124 [.int .u64 0] [] (iV 0) []:=by
 refine AC func124 ntmps124 fun g w0 R h0=>g0<|AP call193 jC h0 fun _ a=>g0 ?_
 exact AD _ [] a
theorem vU(p:Option Addr)(c r:Nat):HQ 470 [.slice p 0 c,iV 0,iV 0,.func (Fn.func 415) #[] #[pV r]] [] (.tuple #[]) []:=by
 refine AC func470 ntmps470 fun g w0 R h0=>g0<|DS 1<|g0<|up<|g0 ?_
 exact AD _ [] h0
theorem vV(p:Option Addr)(c r:Nat):HQ 450 [.slice p 0 c,iV 0,iV 0,iV 0,.func (Fn.func 415) #[] #[pV r]] [] (.tuple #[]) []:=by
 refine AC func450 ntmps450 fun g w0 R h0=>g0<|DS 1<|g0<|AP call470 (vU p c r) h0 fun _ a=>g0<|up<|g0 ?_
 exact AD _ [] a
theorem qM(p:Option Addr)(c r:Nat):HQ 414 [.slice p 0 c,.func (Fn.func 415) #[] #[pV r]] [] (.tuple #[]) []:=by
 refine AC func414 ntmps414 fun g w0 R h0=>go [.v 1 3 (tE 0)]<|AP call124 vT h0 fun _ a=>g0<|AP call450 (vV p c r) a fun _ b=>g0 ?_
 exact AD _ [] b
theorem Z0(p:Option Addr)(m c c1 d b n:Nat)(X:List Int)(S:Ts)(hm:m≤1000000):HT prog 414 [.slice p m c,.func (.func 415) #[] #[pV d]] [Sl 3 1 p m c (fl eI X),Cl d [.func (Fn.func 413) #[] #[pV c1]] 522,Cl c1 [pV b] 80,TW b n S]
  (fun v K=> ∃M:List Int,(M.Perm X∧M.Pairwise fun a b=>ltOf (lD S) b a=false)∧v= .tuple #[]∧K= [Sl 3 1 p m c (fl eI M),Cl d [.func (Fn.func 413) #[] #[pV c1]] 522,Cl c1 [pV b] 80,TW b n S]):=by
 intro g w F hs
 rcases Nat.eq_zero_or_pos m with f|f
 · subst f
   have hl:X= []:=List.eq_nil_of_length_eq_zero (Ca Co dc hs)
   subst hl
   refine(qM p c d g w _ hs).mono ?_
   rintro e w' ⟨v,K,rfl,⟨rfl,rfl⟩,k⟩
   exact⟨_,_,rfl,⟨[],⟨List.Perm.refl _,List.Pairwise.nil⟩,rfl,rfl⟩,k⟩
 · have q:sat g w (TW b n S::(F++ [Sl 3 1 p m c (fl eI X),Cl d [.func (Fn.func 413) #[] #[pV c1]] 522,Cl c1 [pV b] 80])):=AN (A:= [Sl 3 1 p m c (fl eI X),Cl d [.func (Fn.func 413) #[] #[pV c1]] 522,Cl c1 [pV b] 80]) (B:=TW b n S::F) hs
   obtain⟨hW,s⟩:=IZ q
   obtain⟨ts,tm,tp,tc,E0,hM,t⟩:=Ay s
   have o:sat g w (Sl 3 1 p m c (fl eI X)::Cl d [.func (Fn.func 413) #[] #[pV c1]] 522::Cl c1 [pV b] 80::Cl b [pV ts,.map (some tm),.slice tp S.R.length tc] 177::Tb ts n S.A::Gp kI vE tm E0::Sl 226 8 tp S.R.length tc (fl DG S.R)::F):=
    AN (A:=Cl b [pV ts,.map (some tm),.slice tp S.R.length tc] 177::Tb ts n S.A::Gp kI vE tm E0::Sl 226 8 tp S.R.length tc (fl DG S.R)::F) (B:= [Sl 3 1 p m c (fl eI X),Cl d [.func (Fn.func 413) #[] #[pV c1]] 522,Cl c1 [pV b] 80]) t
   obtain⟨bs,cur,hp,e2,e3,i⟩:=NE o f
   refine(VR Zz (lD S) (zE S) 415 [pV d] call415 o f om ?_).mono ?_
   · intro bb W hpb hWa x y
     obtain rfl:bb=bs:=by rw[hp] at hpb;simpa using hpb.symm
     have a1:=NU (j:=0) i rfl hWa
     have a2:=NU (j:=1) i rfl hWa
     have l:=NU (j:=2) i rfl hWa
     have a4:=dC (j:=5) i rfl hWa (F5 _ _ _)
     exact Xj (Zx W b ts tm tc tp S (by simp[World.cell?,l]) (by simp[World.cell?,l]) (by simp[World.cell?,l]) a4 hM.2 c1 (by simp[World.cell?,a2]) d (by simp[World.cell?,a1]) x y)
   · rintro e w' ⟨rfl,M,h1,k,h3⟩
     refine⟨_,_,rfl,⟨M,⟨h1,k⟩,rfl,rfl⟩,?_⟩
     have h4:=AN (A:= [Sl 3 1 p m c (fl eI M),Cl d [.func (Fn.func 413) #[] #[pV c1]] 522,Cl c1 [pV b] 80]) (B:=Cl b [pV ts,.map (some tm),.slice tp S.R.length tc] 177::Tb ts n S.A::Gp kI vE tm E0::Sl 226 8 tp S.R.length tc (fl DG S.R)::F) h3
     have h5:sat g w' (TW b n S::(F++ [Sl 3 1 p m c (fl eI M),Cl d [.func (Fn.func 413) #[] #[pV c1]] 522,Cl c1 [pV b] 80])):=MK hW (AV hM.1 hM.2 rfl h4)
     exact AN (A:=TW b n S::F) (B:= [Sl 3 1 p m c (fl eI M),Cl d [.func (Fn.func 413) #[] #[pV c1]] 522,Cl c1 [pV b] 80]) h5
theorem WW(b n:Nat)(S:Ts):HT prog 373 [pV b] [TW b n S] (fun v K=> ∃(p:Option Addr) (c:Nat),v= .slice p ((Bv S).length) c∧K= [TW b n S,Sl 3 1 p ((Bv S).length) c (fl eI (Bv S))]):=by
 refine AC func373 ntmps373 fun g w0 R i=> ?_
 have hW_:=(IZ i).1;have hrl_:=hW_.rl;have hnl_:=OK S.R 2
 refine g0<|nP 80 [pV b] i (fun j _ m=> ?_)
 refine g0<|nP 522 [Value.nilFunc] m (fun o _ q=> ?_)
 refine sA [.func (Fn.func 413) #[] #[pV j]] q fun _ k=> ?_
 have s:=k.b.t4
 refine go [rd 2 0 1 0 1 k]<|cP call55 (Hr b n S 2) s ?_
 rintro v K _ (⟨e,f,rfl,rfl⟩) t
 have l:=(CW t).a.t5
 have A:=Ca Co dc l
 have u:=l.c.c.b.t5
 refine g0<|cP call414 (Z0 e ((AT S.R 2).length) f j o b n (AT S.R 2) S om) u ?_
 rintro v K B (⟨M24,⟨hM25,hM26⟩,rfl,rfl⟩) x
 have y:=Wx x
 refine g0 ?_
 have he_:M24=Bv S:=WM hM25 hM26
 have z:sat g _ (Sl 3 1 e ((Bv S).length) f (fl eI (Bv S))::_):=AI y (fun _ hh_=>by rw[H3,←he_];exact hh_)
 exact en (.slice e ((AT S.R 2).length) f) [] ⟨_,_,rfl,⟨e,f,by rw[H3],rfl⟩,z.c.t5.d.b.b.t3⟩
theorem Qn(ba cp:Int)(hb:1≤ba∧ba≤cp∧cp≤1048576):HQ 58 [iV ba,iV cp] [] (iV 0) []:=by
 refine AC func58 ntmps58 fun g w0 R h0=>go [.v 1 1 (oF (ba<1)),.v 1 5 (oF (cp<ba)),.v 1 9 (oF (cp>1048576))] ?_
 exact AD _ [] h0
theorem Z3(ba cp:Int)(h:ba<1∨cp<ba∨1048576<cp):HQ 58 [iV ba,iV cp] [] (iV 2) []:=by
 refine AC func58 ntmps58 fun g w0 R a=>go [.s 1 1] ?_
 by_cases b:ba<1
 ·
  refine go [.v 1 1 (oT _ b)] ?_
  exact AD _ [] a
 refine go [.v 1 1 (oF _ b),.s 1 5] ?_
 by_cases c:cp<ba
 ·
  refine go [.v 1 5 (oT _ c)] ?_
  exact AD _ [] a
 refine go [.v 1 5 (oF _ c),.v 1 9 (oT (cp>1048576))] ?_
 exact AD _ [] a
theorem Qo(ba cp:Int):HQ 58 [iV ba,iV cp] [] (Value.int .i64 (lE ba cp)) []:=by
 unfold lE
 split
 · rename_i h
   exact Z3 ba cp h
 · rename_i h
   exact Qn ba cp om
theorem jD(tr ba cp:Int)(ht:1≤tr∧tr≤64)(hb:1≤ba∧ba≤cp∧cp≤1048576):HQ 421 [iV tr,iV ba,iV cp] [] (iV 0) []:=by
 refine AC func421 ntmps421 fun g w0 R h0=>go [.v 1 1 (oF (tr<1)),.v 1 4 (oF (tr>64))]<|AP call58 (Qn ba cp om) h0 fun _ a=>g0 ?_
 exact AD _ [] a
theorem Z4(ba cp:Int):HT prog 455 [iV ba,iV cp] [] (fun v K=> ∃b c:Nat,v= .func (Fn.func 482) #[] #[pV b,pV c]∧K= [Cl b [iV ba] 2,Cl c [iV cp] 2]):=by
 refine AC func455 ntmps455 fun g w0 R h0=>g0<|nP 2 [iV ba] h0 (fun d _ e=> ?_)
 refine nP 2 [iV cp] e (fun f _ i=> ?_)
 refine g0 ?_
 exact en _ [] ⟨_,_,rfl,⟨d,f,rfl,rfl⟩,i.a.t3⟩
theorem Z5(c1 c2:Nat)(ba cp:Int)(hb:1≤ba∧ba≤cp∧cp≤1048576):IT prog 482 [pV c1,pV c2] 64 (fun i:Nat=> [iV ((i:Int)+1),iV (O7 ba cp i)]) [Cl c1 [iV ba] 2,Cl c2 [iV cp] 2]:=by
 refine mH func482 ntmps482 fun g w0 R k_ J_ E_ hY h0=> ?_
 have c:sat g _ (J_ 0::_):=h0
 refine go [rd 0 0 1 0 1 c] ?_
 refine Jc (fun mz_ a w=> ∃k:Nat,∃wv:Int,∃lr:Fr,mz_=64-k∧(k≤64)∧(wv=O7 ba cp k)∧(1≤wv∧wv≤cp)∧a=mk 21 (([(0,.func (Fn.yield k_) #[] #[]),(2,pV c2),(4,iV wv),(5,iV ((k:Int)+1))]:Fr)++lr)∧sat g w [J_ k,Cl c1 [iV ba] 2,Cl c2 [iV cp] 2,R]) (64-0) ⟨0,ba,_,rfl,(Nat.zero_le _),rfl,om,(Ck [.k 0 (.func (Fn.yield k_) #[] #[]),.k 2 (pV c2),.k 4 (iV ba),.o 5 (oJ .i64 1 ((0:Int)+1))]),c⟩ ?_
 rintro p q t ⟨k,wv,u,rfl,hk,hwv_,hwb_,rfl,d⟩
 refine ga<|go [.s 2 99999] ?_
 refine Wy 6<|go [.s 2 1] ?_
 by_cases e:(k:Int)+1≤64
 ·
  refine go [.v 2 1 (oT _ e)] ?_
  refine yY 2 (args:= [iV ((k:Int)+1),iV wv]) (xa:=(fun i:Nat=> [Value.int .i64 ((i:Int)+1),Value.int .i64 (O7 ba cp i)]) k) (by show [Value.int .i64 ((k:Int)+1),Value.int .i64 (O7 ba cp k)]=_;rw[←hwv_]) (hY k om _ [R] d) ?_ ?_
  ·
   intro x f
   have b:sat g _ (J_ (k+1)::_):=f
   have y:=(om:k<64)
   refine go [.v 4 1 (CD (2*wv)),rd 4 2 2 0 1 b,.s 4 3] ?_
   by_cases z:cp<2*wv
   ·
    refine go [.v 4 3 (⟨iV (if cp<2*wv then cp else 2*wv),iV cp,(BE (if_pos om))⟩),.v 3 1 (oI (((k:Int)+1)+1) ((k:Int)+2))] ?_
    exact kB (64-(k+1)) ⟨(k+1),cp,_,rfl,om,(by unfold O7;rw[←hwv_];omega),om,(Ck [.k 0 (.func (Fn.yield k_) #[] #[]),.k 2 (pV c2),.k 4 (iV cp),.o 5 (oJ .i64 ((k:Int)+2) ((((k+1):Nat):Int)+1))]),b⟩
   refine go [.v 4 3 (⟨iV (if cp<2*wv then cp else 2*wv),iV (2*wv),(BE (if_neg om))⟩),.v 3 1 (oI (((k:Int)+1)+1) ((k:Int)+2))] ?_
   exact kB (64-(k+1)) ⟨(k+1),2*wv,_,rfl,om,(by unfold O7;rw[←hwv_];omega),om,(Ck [.k 0 (.func (Fn.yield k_) #[] #[]),.k 2 (pV c2),.k 4 (iV (2*wv)),.o 5 (oJ .i64 ((k:Int)+2) ((((k+1):Nat):Int)+1))]),b⟩
  intro j l
  have m:sat g j [E_ k,R]:=l
  have A:=(om:k<64)
  refine g0<|up<|g0 ?_
  exact en (.tuple #[]) [] ⟨⟨_,rfl⟩,.inr ⟨k,om,m⟩⟩
 refine go [.v 2 1 (oF _ e)] ?_
 refine yN 2<|g0<|up<|g0 ?_
 have he_:k=64:=(by omega)
 exact en (.tuple #[]) [] ⟨⟨_,rfl⟩,.inl (he_▸d)⟩
theorem jE(ct:Nat)(tr ka kb:Int)(h:ka=tr):HQ 423 [iV ka,iV kb,pV ct] [Cl ct [iV tr] 3] (bT) [Cl ct [iV tr] 3]:=by
 refine AC func423 ntmps423 fun g w0 R a=>go [rd 1 1 0 0 1 a,.v 1 2 (G9 ka tr)] ?_
 exact AD _ [] a
theorem jF(ct:Nat)(tr ka kb:Int)(h: ¬ka=tr):HQ 423 [iV ka,iV kb,pV ct] [Cl ct [iV tr] 3] (bF) [Cl ct [iV tr] 3]:=by
 refine AC func423 ntmps423 fun g w0 R a=>go [rd 1 1 0 0 1 a,.v 1 2 (DR ka tr)] ?_
 exact AD _ [] a
theorem jG(ct:Nat)(tr ba cp:Int)(ht:1≤tr∧tr≤64)(hb:1≤ba∧ba≤cp∧cp≤1048576):HQ 422 [iV ba,iV cp,.func (Fn.func 423) #[] #[pV ct]] [Cl ct [iV tr] 3] (.tuple #[iV tr,iV (BP tr ba cp)]) [Cl ct [iV tr] 3]:=by
 refine AC func422 ntmps422 fun g w0 R h0=>g0<|nP 530 [.func (Fn.func 423) #[] #[pV ct]] h0 (fun o _ q=> ?_)
 refine nP 3 [iV 0] q (fun j _ s=> ?_)
 refine nP 2 [iV 0] s (fun k _ t=> ?_)
 refine g0<|cP call455 (Z4 ba cp) t ?_
 rintro v K _ (⟨u,y,rfl,rfl⟩) z
 have A:=(CW z).e.c.d.e.t7
 refine g0 ?_
 refine kN (N:=64) (fun i K=>((i:Int)<tr)∧K= [Cl o [.func (Fn.func 423) #[] #[pV ct]] 530,Cl j [iV 0] 3,Cl k [iV 0] 2,Cl ct [iV tr] 3]) (fun c i K=>(c=Code.ret∧((i:Int)+1=tr)∧K= [Cl o [.func (Fn.func 423) #[] #[pV ct]] 530,Cl j [iV ((i:Int)+1)] 3,Cl k [iV (O7 ba cp i)] 2,Cl ct [iV tr] 3])) call482 (Z5 u y ba cp hb) ⟨om,rfl⟩ A ?_ ?_ ?_
 ·
  rintro i U lp_ V K_ G ⟨hlt_,rfl⟩ B
  have p:sat g _ (Cl o [.func (Fn.func 423) #[] #[pV ct]] 530::_):=B
  refine go [rd 4 0 0 0 1 p] ?_
  by_cases W:(i:Int)+1=tr
  ·
   refine AF call423 (jE ct tr ((i:Int)+1) (O7 ba cp i) om) p.c.t7 fun _ C=> ?_
   have D:=C.b.t7
   refine g0<|sA [iV ((i:Int)+1)] D fun _ E=>sA [iV (O7 ba cp i)] E.c.t7 fun _ F=>g0 ?_
   exact xS ⟨rfl,om,rfl⟩ F.f.c.b.c.d.t7.t5
  refine AF call423 (jF ct tr ((i:Int)+1) (O7 ba cp i) om) p.c.t7 fun _ H=>g0 ?_
  exact bU ⟨om,rfl⟩ H.c.c.c.t7
 ·
  rintro D45 X K_ ⟨hlt_,rfl⟩ I
  have J:sat g _ (pt D45 (Obj.deferred (some []))::_):=I
  have L:=J.b.t8
  refine g0<|sA [iV 0] L fun _ M=>sA [iV 0] M.c.t8 fun _ O=>g0 ?_
  refine LM (.tuple #[iV 0,iV 0]) O.b.t8 (fun P l=> [rd 0 0 2 0 1 l,rd 0 0 1 0 1 l]) (fun P l=> ?_) [iV 0,iV 0] [(⟨j,0,none⟩,iV 0),(⟨k,0,none⟩,iV 0)]
  exact⟨_,_,rfl,⟨by exfalso;omega,rfl⟩,l.d.t8.x.a.t2⟩
 rintro D60 Y ex_ i K_ Z (⟨rfl,hex_,rfl⟩) Q
 have S:sat g _ (pt D60 (Obj.deferred (some []))::_):=Q
 refine g0 ?_
 refine LM (.tuple #[iV ((i:Int)+1),iV (O7 ba cp i)]) S (fun T m=> [rd 0 0 2 0 1 m,rd 0 0 3 0 1 m]) (fun T m=> ?_) [iV ((i:Int)+1),iV (O7 ba cp i)] [(⟨j,0,none⟩,iV ((i:Int)+1)),(⟨k,0,none⟩,iV (O7 ba cp i))]
 exact⟨_,_,rfl,⟨by unfold BP;rw[show (tr-1).toNat=i from by omega,show ((i:Int)+1)=tr from by omega],rfl⟩,m.d.t6.e.a.t2⟩
theorem jH(tr ba cp:Int)(ht:1≤tr∧tr≤64)(hb:1≤ba∧ba≤cp∧cp≤1048576):HQ 378 [iV tr,iV ba,iV cp] [] (.tuple #[iV (BP tr ba cp),iV 0]) []:=by
 refine AC func378 ntmps378 fun g w0 R h0=>g0<|nP 3 [iV tr] h0 (fun c _ b=> ?_)
 refine go [rd 1 0 0 0 1 b]<|AP call421 (jD tr ba cp om om) b fun _ d=>g0<|AF call422 (jG c tr ba cp om om) d fun _ e=>g0 ?_
 exact AD _ [] e.a.t1
theorem Of(r:Rs)(hres:FZ r=0)(d:0≤r.out.2.2)(e:r.out.2.2≤4294967295)(st:Int)(h:r.st=st):HQ 386 [.agg #[iV r.out.1,iV r.out.2.1,uV r.out.2.2,iV r.st,iV r.why,iV r.tr,iV r.nx,sV r.tag],bT,iV st] [] (iV 0) []:=by
 refine AC func386 ntmps386 fun g w0 R h0=>g0<|nP 226 [iV r.out.1,iV r.out.2.1,uV r.out.2.2,iV r.st,iV r.why,iV r.tr,iV r.nx,sV r.tag] h0 (fun _ _ b=> ?_)
 refine go [rd 1 0 0 0 8 b]<|AP call352 (by have h_:=DW r.out.1 r.out.2.1 r.out.2.2 r.st r.why r.tr r.nx r.tag om om (by have:=Ug hres;omega);rw[show DH r.out.1 r.out.2.1 r.out.2.2 r.st r.why r.tr r.nx r.tag=0 from hres] at h_;exact h_) b fun _ c=> ?_
 refine go [rd 6 1 0 3 1 c,.v 6 3 (Db r.st st)] ?_
 exact AD _ [] c.a.t1
theorem qN(r:Rs)(hres:FZ r=0)(f:0≤r.out.2.2)(i:r.out.2.2≤4294967295)(t:Int)(ht:0≤t∧t≤1099511627776)(hst:r.st=2)(h:r.nx≤t):HQ 374 [.agg #[iV r.out.1,iV r.out.2.1,uV r.out.2.2,iV r.st,iV r.why,iV r.tr,iV r.nx,sV r.tag],iV t] [] (.tuple #[bT,iV 0]) []:=by
 refine AC func374 ntmps374 fun g w0 R h0=>g0<|nP 226 [iV r.out.1,iV r.out.2.1,uV r.out.2.2,iV r.st,iV r.why,iV r.tr,iV r.nx,sV r.tag] h0 (fun _ _ e=> ?_)
 refine g0<|dw (AE [0,1,3,4] (Tr.an 2 (Tr.an 5 (Tr.fl 6 Tr.nil)))) e fun _ b=>go [rd 1 0 0 0 8 b,rd 1 4 0 3 1 b]<|CJ call388 (HA t om) b fun _ c=>⟨kd [rd 0 4 0 3 1 c,rd 0 0 0 0 8 c],?_⟩
 refine CJ call386 (Of r hres om om r.st om) c fun _ d=>⟨kd [],?_⟩
 refine go [rd 4 1 0 3 1 d,.v 4 2 (G9 r.st 2),rd 4 5 0 6 1 d,.v 4 7 (oT (r.nx≤t))] ?_
 exact AD _ [] d.a.t1
theorem qO(r:Rs)(hres:FZ r=0)(f:0≤r.out.2.2)(i:r.out.2.2≤4294967295)(t:Int)(ht:0≤t∧t≤1099511627776)(hst:r.st=2)(h:t<r.nx):HQ 374 [.agg #[iV r.out.1,iV r.out.2.1,uV r.out.2.2,iV r.st,iV r.why,iV r.tr,iV r.nx,sV r.tag],iV t] [] (.tuple #[bF,iV 0]) []:=by
 refine AC func374 ntmps374 fun g w0 R h0=>g0<|nP 226 [iV r.out.1,iV r.out.2.1,uV r.out.2.2,iV r.st,iV r.why,iV r.tr,iV r.nx,sV r.tag] h0 (fun _ _ e=> ?_)
 refine g0<|dw (AE [0,1,3,4] (Tr.an 2 (Tr.an 5 (Tr.fl 6 Tr.nil)))) e fun _ b=>go [rd 1 0 0 0 8 b,rd 1 4 0 3 1 b]<|CJ call388 (HA t om) b fun _ c=>⟨kd [rd 0 4 0 3 1 c,rd 0 0 0 0 8 c],?_⟩
 refine CJ call386 (Of r hres om om r.st om) c fun _ d=>⟨kd [],?_⟩
 refine go [rd 4 1 0 3 1 d,.v 4 2 (G9 r.st 2),rd 4 5 0 6 1 d,.v 4 7 (oF (r.nx≤t))] ?_
 exact AD _ [] d.a.t1
theorem jI(r:Rs)(hres:FZ r=0)(P:0≤r.out.2.2)(Q:r.out.2.2≤4294967295)(x t wt:Int)(hx:1≤x∧x≤3)(ht:0≤t∧t≤1099511627776)(hw:1≤wt∧wt≤1048576)(hst:r.st=2):HQ 379 [.agg #[iV r.out.1,iV r.out.2.1,uV r.out.2.2,iV r.st,iV r.why,iV r.tr,iV r.nx,sV r.tag],iV x,iV t,iV wt] [] (.tuple #[.agg #[iV ((AR r x t wt).out.1),iV ((AR r x t wt).out.2.1),uV ((AR r x t wt).out.2.2),iV ((AR r x t wt).st),iV ((AR r x t wt).why),iV ((AR r x t wt).tr),iV ((AR r x t wt).nx),sV ((AR r x t wt).tag)],iV (Gw r x t wt)]) []:=by
 have hp_:=(Kp hres).1;unfold CH at hp_;have c:0≤r.tr∧r.tr≤10000:=by omega
 refine AC func379 ntmps379 fun g w0 R h0=>g0<|nP 226 [iV r.out.1,iV r.out.2.1,uV r.out.2.2,iV r.st,iV r.why,iV r.tr,iV r.nx,sV r.tag] h0 (fun _ _ D=> ?_)
 refine nP 226 [iV 0,iV 0,uV 0,iV 0,iV 0,iV 0,iV 0,sV []] D (fun _ _ E=> ?_)
 refine g0<|dw (AE [0,1] (Tr.an 2 (AE [3,4] (Tr.an 5 (AE [6,7,8] (Tr.an 9 (Tr.fl 10 (Tr.an 11 (Tr.fl 12 Tr.nil))))))))) E fun _ e=>go [rd 1 0 1 0 8 e]<|CJ call387 (Na x 1 3 om) e fun _ f=>⟨kd [rd 0 0 1 0 8 f],?_⟩
 refine g0<|CJ call388 (HA t om) f fun _ i=>⟨kd [rd 0 0 1 0 8 i],?_⟩
 refine g0<|CJ call387 (Na wt 1 1048576 om) i fun _ j=>⟨kd [rd 0 0 1 0 8 j],?_⟩
 refine g0<|CJ call386 (Of r hres om om 2 om) j fun _ d=>⟨kd [],?_⟩
 refine go [.s 8 0] ?_
 by_cases k:x=1
 ·
  have F:=d.a.t3
  refine go [.v 8 0 (G9 _ _ k)]<|sP [(3,iV 3)] [iV r.out.1,iV r.out.2.1,uV r.out.2.2,iV 3,iV r.why,iV r.tr,iV r.nx,sV r.tag] F fun _ G=>g0<|sP [(6,iV 0)] [iV r.out.1,iV r.out.2.1,uV r.out.2.2,iV 3,iV r.why,iV r.tr,iV 0,sV r.tag] G fun _ l=> ?_
  have H:=l.a.t3
  refine go [rd 12 0 0 0 8 l]<|sA [iV r.out.1,iV r.out.2.1,uV r.out.2.2,iV 3,iV r.why,iV r.tr,iV 0,sV r.tag] H fun _ m=>g0 ?_
  exact en (.tuple #[.agg #[iV r.out.1,iV r.out.2.1,uV r.out.2.2,iV 3,iV r.why,iV r.tr,iV 0,sV r.tag],iV 0]) [rd 0 0 0 0 8 m] ⟨_,_,rfl,⟨by have he_:Gw r x t wt=0:=(if_neg (fun h_=>by omega));unfold AR;rw[if_pos he_,he_];unfold Ip;rw[if_pos om],rfl⟩,m.b.t1⟩
 refine go [.v 8 0 (DR _ _ k),.s 10 0] ?_
 by_cases o:x=3
 ·
  have I:=d.a.t3
  refine go [.v 10 0 (G9 _ _ o)]<|sP [(3,iV 4)] [iV r.out.1,iV r.out.2.1,uV r.out.2.2,iV 4,iV r.why,iV r.tr,iV r.nx,sV r.tag] I fun _ J=>g0<|sP [(6,iV 0)] [iV r.out.1,iV r.out.2.1,uV r.out.2.2,iV 4,iV r.why,iV r.tr,iV 0,sV r.tag] J fun _ p=> ?_
  have L:=p.a.t3
  refine go [rd 12 0 0 0 8 p]<|sA [iV r.out.1,iV r.out.2.1,uV r.out.2.2,iV 4,iV r.why,iV r.tr,iV 0,sV r.tag] L fun _ q=>g0 ?_
  exact en (.tuple #[.agg #[iV r.out.1,iV r.out.2.1,uV r.out.2.2,iV 4,iV r.why,iV r.tr,iV 0,sV r.tag],iV 0]) [rd 0 0 0 0 8 q] ⟨_,_,rfl,⟨by have he_:Gw r x t wt=0:=(if_neg (fun h_=>by omega));unfold AR;rw[if_pos he_,he_];unfold Ip;rw[if_neg om,if_pos om],rfl⟩,q.b.t1⟩
 refine go [.v 10 0 (DR _ _ o),.v 5 2 (oI (1099511627776-wt) (-wt+1099511627776)),.s 5 3] ?_
 by_cases u:t> -wt+1099511627776
 ·
  refine go [.v 5 3 (oT _ u)]<|sA [iV 0,iV 0,uV 0,iV 0,iV 0,iV 0,iV 0,sV []] d fun _ y=>g0 ?_
  exact en (.tuple #[.agg #[iV 0,iV 0,uV 0,iV 0,iV 0,iV 0,iV 0,sV []],iV 17]) [rd 0 0 0 0 8 y] ⟨_,_,rfl,⟨by have he_:Gw r x t wt=17:=(if_pos ⟨by omega,by omega⟩);unfold AR;rw[if_neg om,he_];rfl,rfl⟩,y.b.t1⟩
 refine go [.v 5 3 (oF _ u),rd 5 6 1 5 1 d,.s 5 7] ?_
 by_cases z:r.tr≥10000
 ·
  refine go [.v 5 7 (oT _ z)]<|sA [iV 0,iV 0,uV 0,iV 0,iV 0,iV 0,iV 0,sV []] d fun _ A=>g0 ?_
  exact en (.tuple #[.agg #[iV 0,iV 0,uV 0,iV 0,iV 0,iV 0,iV 0,sV []],iV 17]) [rd 0 0 0 0 8 A] ⟨_,_,rfl,⟨by have he_:Gw r x t wt=17:=(if_pos ⟨by omega,by omega⟩);unfold AR;rw[if_neg om,he_];rfl,rfl⟩,A.b.t1⟩
 have M:=d.a.t3
 refine go [.v 5 7 (oF _ z),rd 7 1 1 5 1 d,.v 7 2 (CD (r.tr+1)),.v 7 5 (CD (t+wt))]<|sP [(5,iV (r.tr+1))] [iV r.out.1,iV r.out.2.1,uV r.out.2.2,iV r.st,iV r.why,iV (r.tr+1),iV r.nx,sV r.tag] M fun _ N=>g0<|sP [(6,iV (t+wt))] [iV r.out.1,iV r.out.2.1,uV r.out.2.2,iV r.st,iV r.why,iV (r.tr+1),iV (t+wt),sV r.tag] N fun _ B=> ?_
 have O:=B.a.t3
 refine go [rd 12 0 0 0 8 B]<|sA [iV r.out.1,iV r.out.2.1,uV r.out.2.2,iV r.st,iV r.why,iV (r.tr+1),iV (t+wt),sV r.tag] O fun _ C=>g0 ?_
 exact en (.tuple #[.agg #[iV r.out.1,iV r.out.2.1,uV r.out.2.2,iV r.st,iV r.why,iV (r.tr+1),iV (t+wt),sV r.tag],iV 0]) [rd 0 0 0 0 8 C] ⟨_,_,rfl,⟨by have he_:Gw r x t wt=0:=(if_neg (fun h_=>by omega));unfold AR;rw[if_pos he_,he_];unfold Ip;rw[if_neg om,if_neg om],rfl⟩,C.b.t1⟩
theorem Ut(b n:Nat)(S:Ts):HQ 299 [pV b] [TW b n S] (bT) [TW b n S]:=by
 refine AC func299 ntmps299 fun g w0 R h0=>g0<|cP call47 (Ni b n S) h0 ?_
 rintro v K _ (⟨d,rfl,rfl⟩) a
 have c:=CW a
 refine g0 ?_
 exact AD _ [] c.B.t2
theorem vW(b n:Nat)(S:Ts)(t mo:Int)(h:0≤t∧t≤1099511627776∧0≤mo):HT prog 300 [pV b,iV t,iV mo] [TW b n S] (fun v K=> ∃(p:Option Addr) (c:Nat),v= .tuple #[.slice p ((Bo S t mo).length) c,iV 0]∧K= [TW b n S,Sl 3 1 p ((Bo S t mo).length) c (fl eI (Bo S t mo))]):=by
 refine AC func300 ntmps300 fun g w0 R F=> ?_
 have hW_:=(IZ F).1;have hrl_:=hW_.rl;have hsl_:(Bv S).length≤S.R.length:=by rw[H3];exact OK S.R 2
 refine g0<|AF call299 (Ut b n S) F fun _ O=>go [.v 3 1 (oF (t<0)),.v 3 4 (oF (t>1099511627776)),.v 3 8 (oF (mo<0))]<|cP call373 (WW b n S) O ?_
 rintro v K ai (⟨u,y,rfl,rfl⟩) P
 have Q:=CW P
 refine g0 ?_
 have G:=Q.a.t3
 have T:=Ca Co dc G
 have U:sat g _ (Sl 3 1 none 0 0 (fl eI [])::_):=CP 3 1 G
 have V:sat g _ (Sl 3 1 none 0 0 (fl eI ((Bv S).take 0))::_):=AI U (fun _ hh_=>by rw[show ([]:List Int)=((Bv S).take 0) from (by simp)] at hh_;exact hh_)
 refine Jc (fun mz_ a w=> ∃i:Nat,∃l:Option Addr,∃m:Nat,∃lr:Fr,mz_=((Bv S).length)-i∧(i≤(Bv S).length)∧(∀(j:Nat) (n_:Int),j<i→(Bv S)[j]? =some n_→H2 S n_≤t)∧((i:Int)≤mo)∧a=mk 67 (([(0,pV b),(1,iV t),(2,iV mo),(8,.slice l i m),(31,.slice u ((Bv S).length) y),(32,iV (((Bv S).length:Nat):Int)),(33,iV i)]:Fr)++lr)∧sat g w [Sl 3 1 l i m (fl eI ((Bv S).take i)),TW b n S,Sl 3 1 u ((Bv S).length) y (fl eI (Bv S)),R]) ((Bv S).length-0) ⟨0,none,0,_,rfl,(Nat.zero_le _),(fun j_ n_ hj_=>absurd hj_ (Nat.not_lt_zero _)),om,(Ck [.k 0 (pV b),.k 1 (iV t),.k 2 (iV mo),.k 8 (.slice none 0 0),.k 31 (.slice u ((Bv S).length) y),.k 32 (iV (((Bv S).length:Nat):Int)),.o 33 (oJ .i64 0 (0:Int))]),V.b.a.t4⟩ ?_
 rintro aj ak al ⟨i,l,m,am,rfl,hi_,hall_,him_,rfl,z⟩
 refine ga<|go [.s 7 0] ?_
 by_cases H:(i:Int)<(((Bv S).length:Nat):Int)
 ·
  obtain⟨C,I⟩:=Av (j:=2) z rfl om
  refine go [.v 7 0 (oT _ H),.s 8 0]<|AS (.pointer (some ⟨C,i,none⟩)) (Ft (Ot 31) (Ot 33) u C 0 (i:Int) ((Bv S).length) y underlying134 1 i I i) ?_
  obtain⟨f,q⟩: ∃x,(Bv S)[i]? =some x:=⟨_,List.getElem?_eq_getElem (by rw[T];omega)⟩
  have D:=mem_srt.1 (List.mem_of_getElem? q);have hm32g:=Zi hW_ D.1;have hm32a:=D.2;have hm32b:=hm32g.2.1;have hm32c:=hm32g.2.2.1
  have hm32d:=D.1
  have W:=z.a.t4
  refine go [.r 8 1 C i [iV f] ⟨CM 2 z rfl I Co 0 (iV f) q i,trivial⟩]<|AF call210 (SC b n S f) W fun _ X=>g0<|nP 226 [iV 0,iV 0,uV 0,iV 0,iV 0,iV 0,iV 0,sV []] X (fun an _ Y=> ?_)
  refine sA [iV ((AZ S f).out.1),iV ((AZ S f).out.2.1),uV ((AZ S f).out.2.2),iV ((AZ S f).st),iV ((AZ S f).why),iV ((AZ S f).tr),iV ((AZ S f).nx),sV ((AZ S f).tag)] Y fun _ E=>go [rd 10 0 0 0 8 E] ?_
  by_cases ao:(AZ S f).nx≤t;rotate_left
  ·
   refine AP call374 (qO (AZ S f) hm32g.1 om om t om om om) E fun ap Z=>g0<|up<|g0 ?_
   have hd_:Bo S t mo=(Bv S).take i:=Ko hall_ hi_ him_ (by first|exact .inr om|exact .inl (fun n_ hn_=>by rw[List.getElem?_eq_none om] at hn_;cases hn_)|exact .inl (fun n_ hn_=>by rw[q] at hn_;obtain rfl:=Option.some.inj hn_;unfold H2;omega))
   have hdl_:(Bo S t mo).length=i:=by rw[hd_,List.length_take];omega
   have aa:sat g _ (Sl 3 1 l ((Bo S t mo).length) m (fl eI (Bo S t mo))::_):=AI Z.b.t5 (fun _ hh_=>by rw[hdl_,hd_];exact hh_)
   exact en (.tuple #[.slice l i m,iV 0]) [] ⟨_,_,rfl,⟨l,m,by rw[hdl_],rfl⟩,aa.b.t5.d.b.b.t3⟩
  refine AP call374 (qN (AZ S f) hm32g.1 om om t om om om) E fun aq J=>go [.s 11 10] ?_
  by_cases L:(i:Int)=mo
  ·
   refine go [.v 11 10 (G9 _ _ L)]<|up<|g0 ?_
   have hd_:Bo S t mo=(Bv S).take i:=Ko hall_ hi_ him_ (by first|exact .inr om|exact .inl (fun n_ hn_=>by rw[List.getElem?_eq_none om] at hn_;cases hn_)|exact .inl (fun n_ hn_=>by rw[q] at hn_;obtain rfl:=Option.some.inj hn_;unfold H2;omega))
   have hdl_:(Bo S t mo).length=i:=by rw[hd_,List.length_take];omega
   have ab:sat g _ (Sl 3 1 l ((Bo S t mo).length) m (fl eI (Bo S t mo))::_):=AI J.b.t5 (fun _ hh_=>by rw[hdl_,hd_];exact hh_)
   exact en (.tuple #[.slice l i m,iV 0]) [] ⟨_,_,rfl,⟨l,m,by rw[hdl_],rfl⟩,ab.b.t5.d.b.b.t3⟩
  refine go [.v 11 10 (DR _ _ L)]<|nG (fun q_=> .slice (some ⟨q_,0,none⟩) 1 1) 3 [iV f] J (fun ac _ ad=>⟨kd [],?_⟩)
  have M:=ad.c.t6
  refine AH ?_
  refine aA 64 1 (Ot 61) (Ot 63) (iV 0) l i m 1 1 (⟨ac,0,none⟩) 8 underlying134 M (fl eI [f]) rfl (Br M rfl) (Aw Co _) (i+1) ?_
  intro A B ar ae
  have N:sat g _ (Sl 3 1 A (i+1) B (fl eI (((Bv S).take i)++ [f]))::_):=sJ ae
  obtain⟨au,av⟩:=BH N
  refine B1<|go [.v 13 0 (CD ((i:Int)+1))] ?_
  refine ET ?_
  have af:sat g _ (Sl 3 1 A (i+1) B (fl eI ((Bv S).take (i+1)))::_):=AI N (fun _ hh_=>by rw[show ((((Bv S).take i)++ [f]):List Int)=((Bv S).take (i+1)) from QW q] at hh_;exact hh_)
  have ag:=af.e.e.e.c.t6.t4
  change ∃n',n'<_∧_
  refine⟨((Bv S).length-(i+1)),by omega,(i+1),A,B,_,rfl,om,(fun j_ n_ hj_ hn_=>(Nat.lt_succ_iff_lt_or_eq.1 hj_).elim (fun h_=>hall_ j_ n_ h_ hn_) (fun h_=>by rw[h_,q] at hn_;obtain rfl:=Option.some.inj hn_;unfold H2;omega)),om,(Ck [.k 0 (pV b),.k 1 (iV t),.k 2 (iV mo),.k 8 (.slice A (i+1) B),.k 31 (.slice u ((Bv S).length) y),.k 32 (iV (((Bv S).length:Nat):Int)),.o 33 (oJ .i64 ((i:Int)+1) (((i+1):Nat):Int))]),ag⟩
 refine go [.v 7 0 (oF _ H)]<|up<|g0 ?_
 have hd_:Bo S t mo=(Bv S).take i:=Ko hall_ hi_ him_ (by first|exact .inr om|exact .inl (fun n_ hn_=>by rw[List.getElem?_eq_none om] at hn_;cases hn_))
 have hdl_:(Bo S t mo).length=i:=by rw[hd_,List.length_take];omega
 have ah:sat g _ (Sl 3 1 l ((Bo S t mo).length) m (fl eI (Bo S t mo))::_):=AI z (fun _ hh_=>by rw[hdl_,hd_];exact hh_)
 exact en (.tuple #[.slice l i m,iV 0]) [] ⟨_,_,rfl,⟨l,m,by rw[hdl_],rfl⟩,ah.a.t4.c.b.b.t3⟩
theorem Z6{g w:World}{L:List AB}{b n:Nat}{S:Ts}{j:Nat}(h:sat g w L)(hj:L[j]? =some (TW b n S)):Wf n S:=D9 h hj fun _ ha _=>ha.1
def qP(c1 c2 c3 c4 b n wb:Nat)(p:Option Addr)(cc:Nat)(l:List Int)(S:Ts)(W:Wst)(x0 x1 x2 x3 x4 x5 bt ba cp x9:Int)(i:Nat):AB:=Aj [Cl c1 [pV wb] 72,Cl c2 [Value.slice p l.length cc] 134,Cl c3 [pV b] 80,Cl c4 [iV x0,iV x1,iV x2,iV x3,iV x4,iV x5,iV bt,iV ba,iV cp,uV x9] 26,TW b n ((EG (⟨bt,ba,cp⟩:Cf) W.now (S,W) l i).1),Wd wb ((EG (⟨bt,ba,cp⟩:Cf) W.now (S,W) l i).2),Sl 3 1 p l.length cc (fl eI l)]
theorem qQ(c1 c2 t u b n wb:Nat)(p:Option Addr)(cc:Nat)(l:List Int)(S:Ts)(W:Wst)(y z A B C D bt ba cp E:Int)(hb:1≤ba∧ba≤cp∧cp≤1048576)(hrun:FK (⟨bt,ba,cp⟩:Cf) W.now (S,W) l)(hll:l.length≤2000):cJ prog 376 [pV c1,pV c2,pV t,pV u] l.length (fun i:Nat=> [qC ((D4 (⟨bt,ba,cp⟩:Cf) W.now (S,W) l).getD i Dn)]) (qP c1 c2 t u b n wb p cc l S W y z A B C D bt ba cp E):=by
 refine yJ func376 ntmps376 fun g w0 R k_ J_ E_ hY h0=> ?_
 have aa:sat g w0 [Cl c1 [pV wb] 72,Cl c2 [.slice p l.length cc] 134,Cl t [pV b] 80,Cl u [iV y,iV z,iV A,iV B,iV C,iV D,iV bt,iV ba,iV cp,uV E] 26,TW b n S,Wd wb W,Sl 3 1 p l.length cc (fl eI l),J_ 0,R]:=AK (FV h0)
 have aj:=aa.e.t9
 refine go [rd 0 0 0 0 1 aa]<|AF call301 (Nt wb W) aj fun _ ab=>go [rd 1 0 2 0 1 ab] ?_
 refine Jc (fun mz_ a w=> ∃i:Nat,∃Y:Pw,∃lr:Fr,mz_=l.length-i∧((EG (⟨bt,ba,cp⟩:Cf) W.now (S,W) l i)=Y)∧(i≤l.length)∧a=mk 79 (([(0,.func (Fn.yield k_) #[] #[]),(1,pV c1),(3,pV t),(4,pV u),(6,iV W.now),(19,.slice p l.length cc),(20,iV (l.length:Int)),(21,iV i)]:Fr)++lr)∧sat g w [J_ i,Cl c1 [pV wb] 72,Cl c2 [.slice p l.length cc] 134,Cl t [pV b] 80,Cl u [iV y,iV z,iV A,iV B,iV C,iV D,iV bt,iV ba,iV cp,uV E] 26,TW b n Y.1,Wd wb Y.2,Sl 3 1 p l.length cc (fl eI l),R]) (l.length-0) ⟨0,(S,W),_,rfl,rfl,(Nat.zero_le _),(Ck [.k 0 (.func (Fn.yield k_) #[] #[]),.k 1 (pV c1),.k 3 (pV t),.k 4 (pV u),.k 6 (iV W.now),.k 19 (.slice p l.length cc),.k 20 (iV (l.length:Int)),.o 21 (oJ .i64 0 (0:Int))]),ab.e.e.e.e.e.x.t9⟩ ?_
 rintro bw bx O ⟨i,Y,bz,rfl,hY_,hi_,rfl,P⟩
 refine ga<|go [.s 2 0] ?_
 by_cases ac:(i:Int)<(l.length:Int)
 ·
  obtain⟨Q,ad⟩:=Av (j:=7) P rfl om
  refine go [.v 2 0 (oT _ ac),.s 3 0]<|AS (.pointer (some ⟨Q,i,none⟩)) (Ft (Ot 19) (Ot 21) p Q 0 (i:Int) l.length cc underlying134 1 i ad i) ?_
  have J:=P.x.t9
  have ak:=Ca Co dc J
  obtain⟨m,F⟩: ∃x,l[i]? =some x:=⟨_,List.getElem?_eq_getElem (by rw[ak];omega)⟩
  have I:=hrun i m F;rw[hY_] at I;have hq27w:=Zi (Z6 (j:=6) J rfl) I.1;have hq27k:=kX (j:=7) J rfl;have hq27r:=iN hq27k I.2.2
  obtain⟨r_,hr_⟩: ∃r,AZ Y.1 m=r:=⟨_,rfl⟩
  rw[hr_] at I hq27w hq27r
  obtain⟨a_,ha_⟩: ∃a,D3 Y.2 r_.out r_.why=a:=⟨_,rfl⟩
  rw[ha_] at hq27r
  have hq27a:=I.2.1;have hq27b:=hq27w.2.1;have hq27c:=hq27w.2.2.1;have hq27p:=(Kp hq27w.1).1;unfold CH at hq27p
  have hq27f:0≤r_.tr∧r_.tr≤10000:=(by omega);have hq27n:Y.2.now=W.now:=(by rw[←hY_];exact iP);have hq27l:=hq27k.nl;have hq27h:=hq27k.nh;rw[hq27n] at hq27l hq27h
  have al:=J.f.t9
  refine go [.r 3 1 Q i [iV m] ⟨CM 0 J rfl ad Co 0 (iV m) F i,trivial⟩,rd 4 0 4 0 1 J]<|AF call210 (by have h_:=SC b n Y.1 m;rw[hr_,I.1] at h_;exact h_) al fun _ am=> ?_
  refine g0<|nP 226 [iV 0,iV 0,uV 0,iV 0,iV 0,iV 0,iV 0,sV []] am (fun G _ an=> ?_)
  refine sA [iV r_.out.1,iV r_.out.2.1,uV r_.out.2.2,iV r_.st,iV r_.why,iV r_.tr,iV r_.nx,sV r_.tag] an fun _ M=> ?_
  have ao:=M.h.t10
  refine go [rd 5 0 4 0 1 M,rd 5 2 0 0 3 M,rd 5 4 0 4 1 M]<|AF call377 (by have h_:=gG wb Y.2 r_.out.1 r_.out.2.1 r_.out.2.2 r_.why om om;rw[show D3 Y.2 ((r_.out.1,r_.out.2.1,r_.out.2.2):Ky) r_.why=a_ from ha_,show DQ Y.2 ((r_.out.1,r_.out.2.1,r_.out.2.2):Ky) r_.why=0 from I.2.2] at h_;exact h_) ao fun _ N=> ?_
  obtain⟨d,ae,hq40a,hq40b,hq40c⟩: ∃q:Int,(if 64<r_.tr+1 then 64 else r_.tr+1)=q∧q≤r_.tr+1∧q≤64∧1≤q:=⟨_,rfl,by split<;>omega,by split<;>omega,by split<;>omega⟩
  have T:BP d ba cp=QX (⟨bt,ba,cp⟩:Cf) r_:=by unfold QX;rw[show min (r_.tr+1) 64=d from by rw[←ae];try (split<;>omega)]
  have hw41b:1≤BP d ba cp∧BP d ba cp≤1048576:=by have h_:=Zf (base:=ba) (cap:=cp) ⟨hb.1,hb.2.1⟩ (d-1).toNat;exact⟨h_.1,by have:=h_.2;unfold BP;omega⟩
  refine go [rd 7 1 1 5 1 N,.v 7 2 (CD (r_.tr+1)),.v 7 3 (⟨iV (if 64<r_.tr+1 then 64 else r_.tr+1),iV d,(BE ae)⟩),rd 7 5 8 7 1 N,rd 7 7 8 8 1 N]<|AP call378 (jH d ba cp om om) N fun _ af=>go [rd 8 0 1 0 8 af]<|AP call379 (jI r_ hq27w.1 om om a_ W.now (BP d ba cp) om om om om) af fun _ ap=>g0<|nP 226 [iV 0,iV 0,uV 0,iV 0,iV 0,iV 0,iV 0,sV []] ap (fun H _ aq=> ?_)
  refine sA [iV ((AR r_ a_ W.now (BP d ba cp)).out.1),iV ((AR r_ a_ W.now (BP d ba cp)).out.2.1),uV ((AR r_ a_ W.now (BP d ba cp)).out.2.2),iV ((AR r_ a_ W.now (BP d ba cp)).st),iV ((AR r_ a_ W.now (BP d ba cp)).why),iV ((AR r_ a_ W.now (BP d ba cp)).tr),iV ((AR r_ a_ W.now (BP d ba cp)).nx),.string (St ((AR r_ a_ W.now (BP d ba cp)).tag))] aq fun U L=>go [.s 9 1] ?_
  by_cases ag:(Gw r_ a_ W.now (BP d ba cp))=0
  ·
   have V:=iJ (show Gw r_ a_ W.now (BP d ba cp)=0 by first|assumption|omega);have ht52a:=V.2.1;have ht52b:(AR r_ a_ W.now (BP d ba cp)).tag.length≤96:=by rw[V.2.2];exact hq27w.2.2.2
   have ar:=L.c.t11
   refine go [.v 9 1 (G9 _ _ ag),rd 10 0 8 0 1 L,rd 10 2 0 0 8 L]<|AF call316 (YW b n Y.1 m ((AR r_ a_ W.now (BP d ba cp)).out.1) ((AR r_ a_ W.now (BP d ba cp)).out.2.1) ((AR r_ a_ W.now (BP d ba cp)).out.2.2) ((AR r_ a_ W.now (BP d ba cp)).st) ((AR r_ a_ W.now (BP d ba cp)).why) ((AR r_ a_ W.now (BP d ba cp)).tr) ((AR r_ a_ W.now (BP d ba cp)).nx) ((AR r_ a_ W.now (BP d ba cp)).tag) om om om) ar fun X Z=>go [.s 11 99999] ?_
   refine Wy 8 ?_
   have hH57:Gw (AZ Y.1 m) (D3 Y.2 (AZ Y.1 m).out (AZ Y.1 m).why) W.now (QX (⟨bt,ba,cp⟩:Cf) (AZ Y.1 m))=0:=by rw[hr_,ha_,←T];first|assumption|(show (Gw r_ a_ W.now (BP d ba cp)=0);omega)
   have hH57x:Ip (AZ Y.1 m) (D3 Y.2 (AZ Y.1 m).out (AZ Y.1 m).why) W.now (QX (⟨bt,ba,cp⟩:Cf) (AZ Y.1 m))=AR r_ a_ W.now (BP d ba cp):=by rw[hr_,ha_,←T];exact V.1.symm
   have ah:(EG (⟨bt,ba,cp⟩:Cf) W.now (S,W) l (i+1))=((Cc Y.1 m ⟨((AR r_ a_ W.now (BP d ba cp)).out.1,(AR r_ a_ W.now (BP d ba cp)).out.2.1,(AR r_ a_ W.now (BP d ba cp)).out.2.2),(AR r_ a_ W.now (BP d ba cp)).st,(AR r_ a_ W.now (BP d ba cp)).why,(AR r_ a_ W.now (BP d ba cp)).tr,(AR r_ a_ W.now (BP d ba cp)).nx,(AR r_ a_ W.now (BP d ba cp)).tag⟩),C7 Y.2 ((r_.out.1,r_.out.2.1,r_.out.2.2):Ky) r_.why):=(QZ F).trans (by rw[hY_];exact Prod.ext ((if_pos hH57).trans (congrArg (Cc Y.1 m) hH57x)) (by show C7 Y.2 (AZ Y.1 m).out (AZ Y.1 m).why=_;rw[hr_]))
   have au:sat g X [TW b n ((EG (⟨bt,ba,cp⟩:Cf) W.now (S,W) l (i+1)).1),Cl H [iV ((AR r_ a_ W.now (BP d ba cp)).out.1),iV ((AR r_ a_ W.now (BP d ba cp)).out.2.1),uV ((AR r_ a_ W.now (BP d ba cp)).out.2.2),iV ((AR r_ a_ W.now (BP d ba cp)).st),iV ((AR r_ a_ W.now (BP d ba cp)).why),iV ((AR r_ a_ W.now (BP d ba cp)).tr),iV ((AR r_ a_ W.now (BP d ba cp)).nx),.string (St ((AR r_ a_ W.now (BP d ba cp)).tag))] 226,Wd wb (C7 Y.2 ((r_.out.1,r_.out.2.1,r_.out.2.2):Ky) r_.why),Cl G [iV r_.out.1,iV r_.out.2.1,uV r_.out.2.2,iV r_.st,iV r_.why,iV r_.tr,iV r_.nx,sV r_.tag] 226,Sl 3 1 p l.length cc (fl eI l),J_ i,Cl c1 [pV wb] 72,Cl c2 [.slice p l.length cc] 134,Cl t [pV b] 80,Cl u [iV y,iV z,iV A,iV B,iV C,iV D,iV bt,iV ba,iV cp,uV E] 26,R]:=(show (Cc Y.1 m ⟨((AR r_ a_ W.now (BP d ba cp)).out.1,(AR r_ a_ W.now (BP d ba cp)).out.2.1,(AR r_ a_ W.now (BP d ba cp)).out.2.2),(AR r_ a_ W.now (BP d ba cp)).st,(AR r_ a_ W.now (BP d ba cp)).why,(AR r_ a_ W.now (BP d ba cp)).tr,(AR r_ a_ W.now (BP d ba cp)).nx,(AR r_ a_ W.now (BP d ba cp)).tag⟩)=((EG (⟨bt,ba,cp⟩:Cf) W.now (S,W) l (i+1)).1) from (by rw[ah]))▸Z
   have av:=au.b.t11
   have aw:sat g X [Wd wb ((EG (⟨bt,ba,cp⟩:Cf) W.now (S,W) l (i+1)).2),TW b n ((EG (⟨bt,ba,cp⟩:Cf) W.now (S,W) l (i+1)).1),Cl H [iV ((AR r_ a_ W.now (BP d ba cp)).out.1),iV ((AR r_ a_ W.now (BP d ba cp)).out.2.1),uV ((AR r_ a_ W.now (BP d ba cp)).out.2.2),iV ((AR r_ a_ W.now (BP d ba cp)).st),iV ((AR r_ a_ W.now (BP d ba cp)).why),iV ((AR r_ a_ W.now (BP d ba cp)).tr),iV ((AR r_ a_ W.now (BP d ba cp)).nx),.string (St ((AR r_ a_ W.now (BP d ba cp)).tag))] 226,Cl G [iV r_.out.1,iV r_.out.2.1,uV r_.out.2.2,iV r_.st,iV r_.why,iV r_.tr,iV r_.nx,sV r_.tag] 226,Sl 3 1 p l.length cc (fl eI l),J_ i,Cl c1 [pV wb] 72,Cl c2 [.slice p l.length cc] 134,Cl t [pV b] 80,Cl u [iV y,iV z,iV A,iV B,iV C,iV D,iV bt,iV ba,iV cp,uV E] 26,R]:=(show (C7 Y.2 ((r_.out.1,r_.out.2.1,r_.out.2.2):Ky) r_.why)=((EG (⟨bt,ba,cp⟩:Cf) W.now (S,W) l (i+1)).2) from (by rw[ah]))▸av
   have ax:sat g X [J_ i,(qP c1 c2 t u b n wb p cc l S W y z A B C D bt ba cp E) (i+1),Cl H [iV ((AR r_ a_ W.now (BP d ba cp)).out.1),iV ((AR r_ a_ W.now (BP d ba cp)).out.2.1),uV ((AR r_ a_ W.now (BP d ba cp)).out.2.2),iV ((AR r_ a_ W.now (BP d ba cp)).st),iV ((AR r_ a_ W.now (BP d ba cp)).why),iV ((AR r_ a_ W.now (BP d ba cp)).tr),iV ((AR r_ a_ W.now (BP d ba cp)).nx),.string (St ((AR r_ a_ W.now (BP d ba cp)).tag))] 226,Cl G [iV r_.out.1,iV r_.out.2.1,uV r_.out.2.2,iV r_.st,iV r_.why,iV r_.tr,iV r_.nx,sV r_.tag] 226,R]:=FV (AO (K:= [Cl c1 [pV wb] 72,Cl c2 [.slice p l.length cc] 134,Cl t [pV b] 80,Cl u [iV y,iV z,iV A,iV B,iV C,iV D,iV bt,iV ba,iV cp,uV E] 26,TW b n ((EG (⟨bt,ba,cp⟩:Cf) W.now (S,W) l (i+1)).1),Wd wb ((EG (⟨bt,ba,cp⟩:Cf) W.now (S,W) l (i+1)).2),Sl 3 1 p l.length cc (fl eI l)]) aw.e.e.b.c.i.i.i.i.t11)
   refine go [rd 11 3 3 0 3 Z,rd 11 5 3 4 1 Z] ?_
   refine yY 11 (args:= [Value.agg #[iV W.now,iV r_.out.1,iV r_.out.2.1,uV r_.out.2.2,iV r_.why,iV a_]]) (xa:=(fun i:Nat=> [qC ((D4 (⟨bt,ba,cp⟩:Cf) W.now (S,W) l).getD i Dn)]) i) (by show [qC ((D4 (⟨bt,ba,cp⟩:Cf) W.now (S,W) l).getD i Dn)]=_;rw[getD_some (Zk F),hY_];unfold Sq;rw[hr_,ha_];first|done|rfl) (hY i ((List.getElem?_eq_some_iff.1 F).1) _ [Cl H [iV ((AR r_ a_ W.now (BP d ba cp)).out.1),iV ((AR r_ a_ W.now (BP d ba cp)).out.2.1),uV ((AR r_ a_ W.now (BP d ba cp)).out.2.2),iV ((AR r_ a_ W.now (BP d ba cp)).st),iV ((AR r_ a_ W.now (BP d ba cp)).why),iV ((AR r_ a_ W.now (BP d ba cp)).tr),iV ((AR r_ a_ W.now (BP d ba cp)).nx),Value.string (St ((AR r_ a_ W.now (BP d ba cp)).tag))] 226,Cl G [iV r_.out.1,iV r_.out.2.1,uV r_.out.2.2,iV r_.st,iV r_.why,iV r_.tr,iV r_.nx,Value.string (St r_.tag)] 226,R] ax) ?_ ?_
   ·
    intro ay az
    have bb:sat g ay [Cl c1 [pV wb] 72,Cl c2 [.slice p l.length cc] 134,Cl t [pV b] 80,Cl u [iV y,iV z,iV A,iV B,iV C,iV D,iV bt,iV ba,iV cp,uV E] 26,TW b n ((EG (⟨bt,ba,cp⟩:Cf) W.now (S,W) l (i+1)).1),Wd wb ((EG (⟨bt,ba,cp⟩:Cf) W.now (S,W) l (i+1)).2),Sl 3 1 p l.length cc (fl eI l),J_ (i+1),Cl H [iV ((AR r_ a_ W.now (BP d ba cp)).out.1),iV ((AR r_ a_ W.now (BP d ba cp)).out.2.1),uV ((AR r_ a_ W.now (BP d ba cp)).out.2.2),iV ((AR r_ a_ W.now (BP d ba cp)).st),iV ((AR r_ a_ W.now (BP d ba cp)).why),iV ((AR r_ a_ W.now (BP d ba cp)).tr),iV ((AR r_ a_ W.now (BP d ba cp)).nx),.string (St ((AR r_ a_ W.now (BP d ba cp)).tag))] 226,Cl G [iV r_.out.1,iV r_.out.2.1,uV r_.out.2.2,iV r_.st,iV r_.why,iV r_.tr,iV r_.nx,sV r_.tag] 226,R]:=AK (FV az)
    have ca:=((List.getElem?_eq_some_iff.1 F).1:i<l.length)
    refine go [.v 12 0 (CD ((i:Int)+1))] ?_
    refine ET ?_
    have bc:=bb.j.x.x.x.x.x.x.x.h.t11.t9
    change ∃n',n'<_∧_
    refine⟨(l.length-(i+1)),by omega,(i+1),(EG (⟨bt,ba,cp⟩:Cf) W.now (S,W) l (i+1)),_,rfl,rfl,om,(Ck [.k 0 (.func (Fn.yield k_) #[] #[]),.k 1 (pV c1),.k 3 (pV t),.k 4 (pV u),.k 6 (iV W.now),.k 19 (.slice p l.length cc),.k 20 (iV (l.length:Int)),.o 21 (oJ .i64 ((i:Int)+1) (((i+1):Nat):Int))]),bc⟩
   intro cb bd
   have be:sat g _ (E_ i::_):=bd
   have cd:=((List.getElem?_eq_some_iff.1 F).1:i<l.length)
   refine g0<|up<|g0 ?_
   exact en (.tuple #[]) [] ⟨⟨_,rfl⟩,.inr ⟨i,om,be.c.a.t4.t2⟩⟩
  refine go [.v 9 1 (DR _ _ ag),.s 11 99999] ?_
  refine Wy 8 ?_
  have hH76: ¬(Gw (AZ Y.1 m) (D3 Y.2 (AZ Y.1 m).out (AZ Y.1 m).why) W.now (QX (⟨bt,ba,cp⟩:Cf) (AZ Y.1 m))=0):=by rw[hr_,ha_,←T];first|assumption|(show ¬(Gw r_ a_ W.now (BP d ba cp)=0);omega)
  have ai:(EG (⟨bt,ba,cp⟩:Cf) W.now (S,W) l (i+1))=(Y.1,C7 Y.2 ((r_.out.1,r_.out.2.1,r_.out.2.2):Ky) r_.why):=(QZ F).trans (by rw[hY_];exact Prod.ext (if_neg hH76) (by show C7 Y.2 (AZ Y.1 m).out (AZ Y.1 m).why=_;rw[hr_]))
  have bf:=L.c.t11
  have bg:sat g U [TW b n ((EG (⟨bt,ba,cp⟩:Cf) W.now (S,W) l (i+1)).1),Cl H [iV ((AR r_ a_ W.now (BP d ba cp)).out.1),iV ((AR r_ a_ W.now (BP d ba cp)).out.2.1),uV ((AR r_ a_ W.now (BP d ba cp)).out.2.2),iV ((AR r_ a_ W.now (BP d ba cp)).st),iV ((AR r_ a_ W.now (BP d ba cp)).why),iV ((AR r_ a_ W.now (BP d ba cp)).tr),iV ((AR r_ a_ W.now (BP d ba cp)).nx),.string (St ((AR r_ a_ W.now (BP d ba cp)).tag))] 226,Wd wb (C7 Y.2 ((r_.out.1,r_.out.2.1,r_.out.2.2):Ky) r_.why),Cl G [iV r_.out.1,iV r_.out.2.1,uV r_.out.2.2,iV r_.st,iV r_.why,iV r_.tr,iV r_.nx,sV r_.tag] 226,Sl 3 1 p l.length cc (fl eI l),J_ i,Cl c1 [pV wb] 72,Cl c2 [.slice p l.length cc] 134,Cl t [pV b] 80,Cl u [iV y,iV z,iV A,iV B,iV C,iV D,iV bt,iV ba,iV cp,uV E] 26,R]:=(show Y.1=((EG (⟨bt,ba,cp⟩:Cf) W.now (S,W) l (i+1)).1) from (by rw[ai]))▸bf
  have bh:=bg.b.t11
  have bi:sat g U [Wd wb ((EG (⟨bt,ba,cp⟩:Cf) W.now (S,W) l (i+1)).2),TW b n ((EG (⟨bt,ba,cp⟩:Cf) W.now (S,W) l (i+1)).1),Cl H [iV ((AR r_ a_ W.now (BP d ba cp)).out.1),iV ((AR r_ a_ W.now (BP d ba cp)).out.2.1),uV ((AR r_ a_ W.now (BP d ba cp)).out.2.2),iV ((AR r_ a_ W.now (BP d ba cp)).st),iV ((AR r_ a_ W.now (BP d ba cp)).why),iV ((AR r_ a_ W.now (BP d ba cp)).tr),iV ((AR r_ a_ W.now (BP d ba cp)).nx),.string (St ((AR r_ a_ W.now (BP d ba cp)).tag))] 226,Cl G [iV r_.out.1,iV r_.out.2.1,uV r_.out.2.2,iV r_.st,iV r_.why,iV r_.tr,iV r_.nx,sV r_.tag] 226,Sl 3 1 p l.length cc (fl eI l),J_ i,Cl c1 [pV wb] 72,Cl c2 [.slice p l.length cc] 134,Cl t [pV b] 80,Cl u [iV y,iV z,iV A,iV B,iV C,iV D,iV bt,iV ba,iV cp,uV E] 26,R]:=(show (C7 Y.2 ((r_.out.1,r_.out.2.1,r_.out.2.2):Ky) r_.why)=((EG (⟨bt,ba,cp⟩:Cf) W.now (S,W) l (i+1)).2) from (by rw[ai]))▸bh
  have bj:sat g U [J_ i,(qP c1 c2 t u b n wb p cc l S W y z A B C D bt ba cp E) (i+1),Cl H [iV ((AR r_ a_ W.now (BP d ba cp)).out.1),iV ((AR r_ a_ W.now (BP d ba cp)).out.2.1),uV ((AR r_ a_ W.now (BP d ba cp)).out.2.2),iV ((AR r_ a_ W.now (BP d ba cp)).st),iV ((AR r_ a_ W.now (BP d ba cp)).why),iV ((AR r_ a_ W.now (BP d ba cp)).tr),iV ((AR r_ a_ W.now (BP d ba cp)).nx),.string (St ((AR r_ a_ W.now (BP d ba cp)).tag))] 226,Cl G [iV r_.out.1,iV r_.out.2.1,uV r_.out.2.2,iV r_.st,iV r_.why,iV r_.tr,iV r_.nx,sV r_.tag] 226,R]:=FV (AO (K:= [Cl c1 [pV wb] 72,Cl c2 [.slice p l.length cc] 134,Cl t [pV b] 80,Cl u [iV y,iV z,iV A,iV B,iV C,iV D,iV bt,iV ba,iV cp,uV E] 26,TW b n ((EG (⟨bt,ba,cp⟩:Cf) W.now (S,W) l (i+1)).1),Wd wb ((EG (⟨bt,ba,cp⟩:Cf) W.now (S,W) l (i+1)).2),Sl 3 1 p l.length cc (fl eI l)]) bi.e.e.b.c.i.i.i.i.t11)
  refine go [rd 11 3 2 0 3 L,rd 11 5 2 4 1 L] ?_
  refine yY 11 (args:= [Value.agg #[iV W.now,iV r_.out.1,iV r_.out.2.1,uV r_.out.2.2,iV r_.why,iV a_]]) (xa:=(fun i:Nat=> [qC ((D4 (⟨bt,ba,cp⟩:Cf) W.now (S,W) l).getD i Dn)]) i) (by show [qC ((D4 (⟨bt,ba,cp⟩:Cf) W.now (S,W) l).getD i Dn)]=_;rw[getD_some (Zk F),hY_];unfold Sq;rw[hr_,ha_];first|done|rfl) (hY i ((List.getElem?_eq_some_iff.1 F).1) _ [Cl H [iV ((AR r_ a_ W.now (BP d ba cp)).out.1),iV ((AR r_ a_ W.now (BP d ba cp)).out.2.1),uV ((AR r_ a_ W.now (BP d ba cp)).out.2.2),iV ((AR r_ a_ W.now (BP d ba cp)).st),iV ((AR r_ a_ W.now (BP d ba cp)).why),iV ((AR r_ a_ W.now (BP d ba cp)).tr),iV ((AR r_ a_ W.now (BP d ba cp)).nx),Value.string (St ((AR r_ a_ W.now (BP d ba cp)).tag))] 226,Cl G [iV r_.out.1,iV r_.out.2.1,uV r_.out.2.2,iV r_.st,iV r_.why,iV r_.tr,iV r_.nx,Value.string (St r_.tag)] 226,R] bj) ?_ ?_
  ·
   intro bk bl
   have bm:sat g bk [Cl c1 [pV wb] 72,Cl c2 [.slice p l.length cc] 134,Cl t [pV b] 80,Cl u [iV y,iV z,iV A,iV B,iV C,iV D,iV bt,iV ba,iV cp,uV E] 26,TW b n ((EG (⟨bt,ba,cp⟩:Cf) W.now (S,W) l (i+1)).1),Wd wb ((EG (⟨bt,ba,cp⟩:Cf) W.now (S,W) l (i+1)).2),Sl 3 1 p l.length cc (fl eI l),J_ (i+1),Cl H [iV ((AR r_ a_ W.now (BP d ba cp)).out.1),iV ((AR r_ a_ W.now (BP d ba cp)).out.2.1),uV ((AR r_ a_ W.now (BP d ba cp)).out.2.2),iV ((AR r_ a_ W.now (BP d ba cp)).st),iV ((AR r_ a_ W.now (BP d ba cp)).why),iV ((AR r_ a_ W.now (BP d ba cp)).tr),iV ((AR r_ a_ W.now (BP d ba cp)).nx),.string (St ((AR r_ a_ W.now (BP d ba cp)).tag))] 226,Cl G [iV r_.out.1,iV r_.out.2.1,uV r_.out.2.2,iV r_.st,iV r_.why,iV r_.tr,iV r_.nx,sV r_.tag] 226,R]:=AK (FV bl)
   have ce:=((List.getElem?_eq_some_iff.1 F).1:i<l.length)
   refine go [.v 12 0 (CD ((i:Int)+1))] ?_
   refine ET ?_
   have bn:=bm.j.x.x.x.x.x.x.x.h.t11.t9
   change ∃n',n'<_∧_
   refine⟨(l.length-(i+1)),by omega,(i+1),(EG (⟨bt,ba,cp⟩:Cf) W.now (S,W) l (i+1)),_,rfl,rfl,om,(Ck [.k 0 (.func (Fn.yield k_) #[] #[]),.k 1 (pV c1),.k 3 (pV t),.k 4 (pV u),.k 6 (iV W.now),.k 19 (.slice p l.length cc),.k 20 (iV (l.length:Int)),.o 21 (oJ .i64 ((i:Int)+1) (((i+1):Nat):Int))]),bn⟩
  intro cf bo
  have bp:sat g _ (E_ i::_):=bo
  have cg:=((List.getElem?_eq_some_iff.1 F).1:i<l.length)
  refine g0<|up<|g0 ?_
  exact en (.tuple #[]) [] ⟨⟨_,rfl⟩,.inr ⟨i,om,bp.c.a.t4.t2⟩⟩
 refine go [.v 2 0 (oF _ ac)]<|up<|g0 ?_
 have he_:i=l.length:=(by omega)
 have bq:=P.e.t9
 have br:sat g O [TW b n ((EG (⟨bt,ba,cp⟩:Cf) W.now (S,W) l i).1),J_ i,Cl c1 [pV wb] 72,Cl c2 [.slice p l.length cc] 134,Cl t [pV b] 80,Cl u [iV y,iV z,iV A,iV B,iV C,iV D,iV bt,iV ba,iV cp,uV E] 26,Wd wb Y.2,Sl 3 1 p l.length cc (fl eI l),R]:=(show Y.1=((EG (⟨bt,ba,cp⟩:Cf) W.now (S,W) l i).1) from (by rw[hY_]))▸bq
 have bs:=br.f.t9
 have bu:sat g O [Wd wb ((EG (⟨bt,ba,cp⟩:Cf) W.now (S,W) l i).2),TW b n ((EG (⟨bt,ba,cp⟩:Cf) W.now (S,W) l i).1),J_ i,Cl c1 [pV wb] 72,Cl c2 [.slice p l.length cc] 134,Cl t [pV b] 80,Cl u [iV y,iV z,iV A,iV B,iV C,iV D,iV bt,iV ba,iV cp,uV E] 26,Sl 3 1 p l.length cc (fl eI l),R]:=(show Y.2=((EG (⟨bt,ba,cp⟩:Cf) W.now (S,W) l i).2) from (by rw[hY_]))▸bs
 have bv:sat g O [J_ i,(qP c1 c2 t u b n wb p cc l S W y z A B C D bt ba cp E) i,R]:=FV (AO (K:= [Cl c1 [pV wb] 72,Cl c2 [.slice p l.length cc] 134,Cl t [pV b] 80,Cl u [iV y,iV z,iV A,iV B,iV C,iV D,iV bt,iV ba,iV cp,uV E] 26,TW b n ((EG (⟨bt,ba,cp⟩:Cf) W.now (S,W) l i).1),Wd wb ((EG (⟨bt,ba,cp⟩:Cf) W.now (S,W) l i).2),Sl 3 1 p l.length cc (fl eI l)]) bu.x.a.b.x.x.x.x.t9)
 exact en (.tuple #[]) [] ⟨⟨_,rfl⟩,.inl (he_▸bv)⟩
theorem Qp(b wb:Nat)(p:Option Addr)(cc:Nat)(l:List Int)(d e f i j k bt ba cp m:Int):HT prog 303 [pV b,pV wb,.agg #[iV d,iV e,iV f,iV i,iV j,iV k,iV bt,iV ba,iV cp,uV m],.slice p l.length cc] [] (fun v K=> ∃o q s t:Nat,v= .func (Fn.func 376) #[] #[pV o,pV q,pV s,pV t]∧K= [Cl o [pV wb] 72,Cl q [.slice p l.length cc] 134,Cl s [pV b] 80,Cl t [iV d,iV e,iV f,iV i,iV j,iV k,iV bt,iV ba,iV cp,uV m] 26]):=by
 refine AC func303 ntmps303 fun g w0 R h0=>g0<|nP 80 [pV b] h0 (fun u _ x=> ?_)
 refine nP 72 [pV wb] x (fun y _ z=> ?_)
 refine nP 26 [iV d,iV e,iV f,iV i,iV j,iV k,iV bt,iV ba,iV cp,uV m] z (fun A _ B=> ?_)
 refine nP 134 [.slice p l.length cc] B (fun C _ D=> ?_)
 refine g0 ?_
 exact en _ [] ⟨_,_,rfl,⟨y,C,u,A,rfl,rfl⟩,D.c.a.c.t5⟩
theorem WX(c1 c2 o q m:Nat)(L:List At)(Am:Nat→AB)(hL:L.length=m)(hm:m≤10000)(hit:cJ prog 376 [pV c1,pV c2,pV o,pV q] m (fun i:Nat=> [qC (L.getD i Dn)]) Am):HT prog 375 [.slice none 0 0,.func (Fn.func 376) #[] #[pV c1,pV c2,pV o,pV q]] [Am 0] (fun v K=> ∃(p:Option Addr) (c:Nat),v= .slice p m c∧K= [Sl 50 6 p m c (fl DM L),Am m]):=by
 refine AC func375 ntmps375 fun g w0 R h0=>g0<|nP 44 [.slice none 0 0] h0 (fun k U x=> ?_)
 have y:sat g _ (Sl 50 6 none 0 0 (fl DM [])::_):=CP 50 6 x
 have z:sat g _ (Sl 50 6 none 0 0 (fl DM (L.take 0))::_):=AI y (fun _ hh_=>by rw[show ([]:List At)=(L.take 0) from (by simp)] at hh_;exact hh_)
 have A:=z.a.t4
 refine g0 ?_
 refine kO (N:=m) (fun i rb_=>([(5,pV rb_),(7,.agg #[iV ((L.getD i Dn).at_),iV ((L.getD i Dn).out.1),iV ((L.getD i Dn).out.2.1),uV ((L.getD i Dn).out.2.2),iV ((L.getD i Dn).why),iV ((L.getD i Dn).ans)])]:Fr)) (fun i rb_ K=> ∃p:Option Addr,∃c:Nat,K= [Cl rb_ [iV ((L.getD i Dn).at_),iV ((L.getD i Dn).out.1),iV ((L.getD i Dn).out.2.1),uV ((L.getD i Dn).out.2.2),iV ((L.getD i Dn).why),iV ((L.getD i Dn).ans)] 50,Cl k [.slice p i c] 44,Sl 50 6 p i c (fl DM (L.take i))]) (fun i K=> ∃p:Option Addr,∃c:Nat,K= [Cl k [.slice p i c] 44,Sl 50 6 p i c (fl DM (L.take i))]) (fun c _ K=>False) call376 hit ⟨none,0,rfl⟩ A ?_ ?_ ?_ ?_
 ·
  rintro i hi_ lp_ V K_ G ⟨p,c,rfl⟩ B
  have C:sat g _ (Cl k [.slice p i c] 44::_):=B
  refine g0<|nP 50 [iV 0,iV 0,iV 0,uV 0,iV 0,iV 0] C (fun D _ E=> ?_)
  refine sA [iV ((L.getD i Dn).at_),iV ((L.getD i Dn).out.1),iV ((L.getD i Dn).out.2.1),uV ((L.getD i Dn).out.2.2),iV ((L.getD i Dn).why),iV ((L.getD i Dn).ans)] E fun _ F=>g0 ?_
  exact tK D ⟨p,c,rfl⟩ F
 ·
  rintro i W lp_ X rb_ K_ G ⟨p,c,rfl⟩ H
  have l:sat g _ (Cl rb_ [iV ((L.getD i Dn).at_),iV ((L.getD i Dn).out.1),iV ((L.getD i Dn).out.2.1),uV ((L.getD i Dn).out.2.2),iV ((L.getD i Dn).why),iV ((L.getD i Dn).ans)] 50::_):=H
  refine go [rd 3 0 1 0 1 l,rd 3 1 0 0 6 l]<|nG (fun q_=> .slice (some ⟨q_,0,none⟩) 1 1) 50 [iV ((L.getD i Dn).at_),iV ((L.getD i Dn).out.1),iV ((L.getD i Dn).out.2.1),uV ((L.getD i Dn).out.2.2),iV ((L.getD i Dn).why),iV ((L.getD i Dn).ans)] l (fun I _ J=>⟨kd [],?_⟩)
  have s:=J.c.t6
  refine AH ?_
  refine aA 11 6 (Ot 8) (Ot 10) (.agg #[iV 0,iV 0,iV 0,uV 0,iV 0,iV 0]) p i c 1 1 (⟨I,0,none⟩) 48 underlying44 s (fl DM [(⟨(L.getD i Dn).at_,((L.getD i Dn).out.1,(L.getD i Dn).out.2.1,(L.getD i Dn).out.2.2),(L.getD i Dn).why,(L.getD i Dn).ans⟩:At)]) rfl (Br s rfl) (Aw BW _) (i+1) ?_
  intro f j Y M
  have t:sat g _ (Sl 50 6 f (i+1) j (fl DM ((L.take i)++ [(⟨(L.getD i Dn).at_,((L.getD i Dn).out.1,(L.getD i Dn).out.2.1,(L.getD i Dn).out.2.2),(L.getD i Dn).why,(L.getD i Dn).ans⟩:At)]))::_):=sJ M
  obtain⟨Z,aa⟩:=BH t
  refine B1<|sA [.slice f (i+1) j] t.c.t6 fun ab O=>g0 ?_
  have P:sat g _ (Sl 50 6 f (i+1) j (fl DM (L.take (i+1)))::_):=AI O.a.t6 (fun _ hh_=>by rw[show (((L.take i)++ [(⟨(L.getD i Dn).at_,((L.getD i Dn).out.1,(L.getD i Dn).out.2.1,(L.getD i Dn).out.2.2),(L.getD i Dn).why,(L.getD i Dn).ans⟩:At)]):List At)=(L.take (i+1)) from Zj om] at hh_;exact hh_)
  exact bU ⟨f,j,rfl⟩ P.e.e.b.c.t6.t4
 ·
  rintro D46 ac K_ ⟨p,c,rfl⟩ Q
  have u:sat g _ (pt D46 (Obj.deferred (some []))::_):=Q
  refine go [rd 4 0 1 0 1 u] ?_
  have S:sat g _ (Sl 50 6 p m c (fl DM L)::_):=AI u.b.t5 (fun _ hh_=>by rw[show ((L.take m):List At)=L from (List.take_of_length_le om)] at hh_;exact hh_)
  refine LM (.slice p m c) S.a.t5 (fun _ _=> []) (fun _ T=> ?_) [] []
  exact⟨_,_,rfl,⟨p,c,rfl,rfl⟩,T.c.b.t5.d.b.b.t3⟩
 intro _ _ _ _ _ _ hf_;exact hf_.elim
theorem S7(c1 c2 a b m:Nat)(L:List At)(Am:Nat→AB)(hL:L.length=m)(hm:m≤10000)(hit:cJ prog 376 [pV c1,pV c2,pV a,pV b] m (fun i:Nat=> [qC (L.getD i Dn)]) Am):HT prog 302 [.func (Fn.func 376) #[] #[pV c1,pV c2,pV a,pV b]] [Am 0] (fun v K=> ∃(p:Option Addr) (c:Nat),v= .slice p m c∧K= [Sl 50 6 p m c (fl DM L),Am m]):=by
 refine AC func302 ntmps302 fun g w0 R h0=>g0<|cP call375 (WX c1 c2 a b m L Am hL hm hit) h0 ?_
 rintro v K _ (⟨d,e,rfl,rfl⟩) f
 have j:=CW f
 refine g0 ?_
 exact en _ [] ⟨_,_,rfl,⟨d,e,rfl,rfl⟩,j⟩
theorem WY(c1 c2 a c b n wb:Nat)(p:Option Addr)(cc:Nat)(l:List Int)(S:Ts)(W:Wst)(i j k m o q bt ba cp s:Int)(hb:1≤ba∧ba≤cp∧cp≤1048576)(hrun:FK (⟨bt,ba,cp⟩:Cf) W.now (S,W) l)(hll:l.length≤2000):HT prog 302 [.func (Fn.func 376) #[] #[pV c1,pV c2,pV a,pV c]] [Cl c1 [pV wb] 72,Cl c2 [.slice p l.length cc] 134,Cl a [pV b] 80,Cl c [iV i,iV j,iV k,iV m,iV o,iV q,iV bt,iV ba,iV cp,uV s] 26,TW b n S,Wd wb W,Sl 3 1 p l.length cc (fl eI l)] (fun v K=> ∃(d:Option Addr) (f:Nat),v=.slice d l.length f∧K= [TW b n ((EX (⟨bt,ba,cp⟩:Cf) W.now (S,W) l).1),Wd wb ((EX (⟨bt,ba,cp⟩:Cf) W.now (S,W) l).2),Sl 50 6 d l.length f (fl DM (D4 (⟨bt,ba,cp⟩:Cf) W.now (S,W) l))]):=by
 intro g w F hs
 have h1:sat g w ((qP c1 c2 a c b n wb p cc l S W i j k m o q bt ba cp s) 0::F):=AO (K:= [Cl c1 [pV wb] 72,Cl c2 [.slice p l.length cc] 134,Cl a [pV b] 80,Cl c [iV i,iV j,iV k,iV m,iV o,iV q,iV bt,iV ba,iV cp,uV s] 26,TW b n S,Wd wb W,Sl 3 1 p l.length cc (fl eI l)]) hs
 refine(S7 c1 c2 a c l.length (D4 (⟨bt,ba,cp⟩:Cf) W.now (S,W) l) (qP c1 c2 a c b n wb p cc l S W i j k m o q bt ba cp s) (iM _ _ _ _) om (qQ c1 c2 a c b n wb p cc l S W i j k m o q bt ba cp s hb hrun hll) g w F h1).mono ?_
 rintro e w' ⟨v,K,rfl,⟨d,f,rfl,rfl⟩,h2⟩
 refine⟨_,_,rfl,⟨d,f,rfl,rfl⟩,?_⟩
 have h3:sat g w' ((qP c1 c2 a c b n wb p cc l S W i j k m o q bt ba cp s) l.length::Sl 50 6 d l.length f (fl DM (D4 (⟨bt,ba,cp⟩:Cf) W.now (S,W) l))::F):=FV h2
 have t:=Ar (Ar (Ar (Ar (AK h3))))
 rw[iL] at t
 have h5:=Ar (AN (A:= [TW b n (EX (⟨bt,ba,cp⟩:Cf) W.now (S,W) l).1,Wd wb (EX (⟨bt,ba,cp⟩:Cf) W.now (S,W) l).2]) (B:=Sl 3 1 p l.length cc (fl eI l)::Sl 50 6 d l.length f (fl DM (D4 (⟨bt,ba,cp⟩:Cf) W.now (S,W) l))::F) t)
 have h6:=AN (A:=Sl 50 6 d l.length f (fl DM (D4 (⟨bt,ba,cp⟩:Cf) W.now (S,W) l))::F) (B:= [TW b n (EX (⟨bt,ba,cp⟩:Cf) W.now (S,W) l).1,Wd wb (EX (⟨bt,ba,cp⟩:Cf) W.now (S,W) l).2]) h5
 exact h6
theorem Z7(b n wb:Nat)(S:Ts)(W:Wst)(l m o q s t bt ba cp u:Int)(hc:(1≤bt∧bt≤64)∧(1≤ba∧ba≤cp∧cp≤1048576)∧lE ba cp=0)(hrun:FK (⟨bt,ba,cp⟩:Cf) W.now (S,W) (Bo S W.now bt)):HT prog 217 [pV b,pV wb,.agg #[iV l,iV m,iV o,iV q,iV s,iV t,iV bt,iV ba,iV cp,uV u]] [TW b n S,Wd wb W] (fun v K=> ∃(p:Option Addr) (c:Nat),v= .tuple #[.slice p ((Bo S W.now bt).length) c,iV 0]∧K= [TW b n ((EX (⟨bt,ba,cp⟩:Cf) W.now (S,W) (Bo S W.now bt)).1),Wd wb ((EX (⟨bt,ba,cp⟩:Cf) W.now (S,W) (Bo S W.now bt)).2),Sl 50 6 p ((Bo S W.now bt).length) c (fl DM (D4 (⟨bt,ba,cp⟩:Cf) W.now (S,W) (Bo S W.now bt)))]):=by
 refine AC func217 ntmps217 fun g w0 R x=> ?_
 have hk_:=kX (j:=1) x rfl;have d:=hk_.nl;have i:=hk_.nh;have hrl_:=(Z6 (j:=0) x rfl).rl;have hsl_:(Bv S).length≤S.R.length:=(by rw[H3];exact OK S.R 2);have hdl_:=qB S W.now bt
 refine g0<|nP 26 [iV l,iV m,iV o,iV q,iV s,iV t,iV bt,iV ba,iV cp,uV u] x (fun _ _ F=> ?_)
 have G:=F.a.t4
 refine g0<|AF call299 (Ut b n S) G fun _ H=> ?_
 have I:=H.b.t4
 refine g0<|cP call39 (KV wb W) I ?_
 rintro v K _ (⟨Z,rfl,rfl⟩) J
 have k:=CW J
 refine go [rd 3 1 3 6 1 k,.v 3 2 (oF (bt<1)),rd 3 5 3 6 1 k,.v 3 6 (oF (bt>64)),rd 3 10 3 7 1 k,rd 3 12 3 8 1 k]<|AP call58 (Qo ba cp) k fun _ L=>go [.v 3 14 (Db (lE ba cp) 0)]<|dw (AE [0,1,3,4] (Tr.an 2 (Tr.an 5 (AE [6,7,8,9,10] Tr.nil)))) L fun _ y=>go [rd 5 4 3 6 1 y]<|BZ call301 (Nt wb W) y fun _ z=>⟨kd [rd 0 4 3 6 1 z],?_⟩
 refine cG call300 (vW b n S W.now bt om) z.b.t5 ?_
 rintro v K _ (⟨A,B,rfl,rfl⟩) M
 have C:=CW M
 refine⟨kd [],?_⟩
 refine go [rd 8 2 4 0 10 C]<|cP call303 (Qp b wb A B (Bo S W.now bt) l m o q s t bt ba cp u) C ?_
 rintro v K _ (⟨N,O,P,Q,rfl,rfl⟩) T
 refine cP call302 (WY N O P Q b n wb A B (Bo S W.now bt) S W l m o q s t bt ba cp u om hrun om) ((Wx T).f.e.e.e.e.e.t10) ?_
 rintro v K _ (⟨U,V,rfl,rfl⟩) X
 have Y:=MG X
 refine g0 ?_
 exact en _ [] ⟨_,_,rfl,⟨U,V,rfl,rfl⟩,Y.E.D.t4⟩
theorem vX(b n:Nat)(S:Ts)(L:List UInt8)(oz og:Int)(s:Nat)(gn:Int)(S2:Ts)(ds dg:Int)(hE:Dv S (1,oz,og) L ((s:Int),gn)=0)(hD:FF S (1,oz,og) L ((s:Int),gn)=(1,ds,dg))(hS:FE S (1,oz,og) L ((s:Int),gn)=S2)(_:0≤og)(_:0≤ -og+4294967295)(_:0≤(Ag L))(_:0≤ -(Ag L)):HQ 206 [pV b,.agg #[iV 1,iV oz,uV og],sV L,.agg #[iV s,uV gn]] [TW b n S] (.tuple #[.agg #[iV 1,iV ds,uV dg],iV 0]) [TW b n S2]:=by
 have h:=eB b n S 1 oz og s gn L om om (by have:=GN (show Ag L=0 by omega);omega)
 rw[hE,hD,hS] at h
 exact h
theorem lG(b n:Nat)(S:Ts)(ds dg nz:Int)(hF:Ba S (1,ds,dg)=0)(hN:(CR S (1,ds,dg)).num=nz)(_:0≤dg)(_:0≤ -dg+4294967295):HQ 282 [pV b,.agg #[iV 1,iV ds,uV dg]] [TW b n S] (.tuple #[iV nz,iV 0]) [TW b n S]:=by
 have h:=YK b n S 1 ds dg om om
 rw[hF,hN] at h
 exact h
theorem vY(b n:Nat)(S:Ts)(ds dg:Int)(hF:Ba S (1,ds,dg)=7)(_:0≤dg)(_:0≤ -dg+4294967295):HQ 282 [pV b,.agg #[iV 1,iV ds,uV dg]] [TW b n S] (.tuple #[iV 0,iV 7]) [TW b n S]:=by
 have h:=YK b n S 1 ds dg om om
 rw[hF,S6 hF dc] at h
 exact h
theorem Z8(b n:Nat)(S:Ts)(ds dg nz:Int)(S2:Ts)(hF:Ba S (1,ds,dg)=0)(hN:(CR S (1,ds,dg)).num=nz)(hL:EC S (1,ds,dg)=true)(hS:Dw S (1,ds,dg)=S2)(_:0≤dg)(_:0≤ -dg+4294967295):HQ 288 [pV b,.agg #[iV 1,iV ds,uV dg]] [TW b n S] (.tuple #[iV nz,bT,iV 0]) [TW b n S2]:=by
 have h:=YJ b n S 1 ds dg om om
 rw[hF,hN,hL,hS] at h
 exact h
theorem lH(b n:Nat)(S:Ts)(nz oz og:Int)(L:List UInt8)(hG:AZ S nz=⟨(1,oz,og),1,0,0,0,L⟩)(hE:nE S nz=0):HQ 210 [pV b,iV nz] [TW b n S] (.tuple #[.agg #[iV 1,iV oz,uV og,iV 1,iV 0,iV 0,iV 0,sV L],iV 0]) [TW b n S]:=by
 have h:=SC b n S nz
 rw[hG,hE] at h
 exact h
theorem M0(b n:Nat)(S:Ts)(nz oz og wy:Int)(L:List UInt8)(S2:Ts)(hE:CS S nz ⟨(1,oz,og),2,wy,0,0,L⟩=0)(hS:Cc S nz ⟨(1,oz,og),2,wy,0,0,L⟩=S2)(_:0≤og)(_:0≤ -og+4294967295)(_:0≤(Ag L))(_:0≤ -(Ag L)):HQ 316 [pV b,iV nz,.agg #[iV 1,iV oz,uV og,iV 2,iV wy,iV 0,iV 0,sV L]] [TW b n S] (iV 0) [TW b n S2]:=by
 have h:=YW b n S nz 1 oz og 2 wy 0 0 L om om (by have:=GN (show Ag L=0 by omega);omega)
 rw[hE,hS] at h
 exact h
theorem zF(b n:Nat)(S:Ts)(nz ds dg:Int)(hA:(bV S nz).d=(1,ds,dg))(hB:(Aa S.E nz).isSome=true):HQ 298 [pV b,iV nz] [TW b n S] (.tuple #[.agg #[iV 1,iV ds,uV dg],bT]) [TW b n S]:=by
 have h:=tU b n S nz
 rw[hA,hB] at h
 exact h
theorem vZ(b:Nat)(W:Wst)(x oz og:Int)(W2:Wst)(hE:Cs W 1 x=0)(hO:CX W 1 x=(1,oz,og))(hS:DY W 1 x=W2):HQ 202 [pV b,iV 1,iV x] [Wd b W] (.tuple #[.agg #[iV 1,iV oz,uV og],iV 0]) [Wd b W2]:=by
 have h:=gD b W 1 x
 rw[hE,hO,hS] at h
 exact h
theorem Uu(b:Nat)(W:Wst)(hN:W.now=0):HQ 301 [pV b] [Wd b W] (iV 0) [Wd b W]:=by
 have h:=Nt b W
 rw[hN] at h
 exact h
theorem lI(b n wb:Nat)(S:Ts)(W:Wst)(a d e f j k bt ba cp l:Int)(hd:Bo S W.now bt= [])(_:0≤bt-1)(_:0≤ -bt+64)(_:0≤ba-1)(_:0≤cp-ba)(_:0≤ -cp+1048576):HT prog 217 [pV b,pV wb,.agg #[iV a,iV d,iV e,iV f,iV j,iV k,iV bt,iV ba,iV cp,uV l]] [TW b n S,Wd wb W] (fun v K=> ∃p:Option Addr,∃c:Nat,v=.tuple #[.slice p 0 c,iV 0]∧K= [TW b n S,Wd wb W,Sl 50 6 p 0 c (fl DM [])]):=by
 have h:=Z7 b n wb S W a d e f j k bt ba cp l ⟨by omega,by omega,by unfold lE;rw[if_neg om]⟩ (by rw[hd];intro i n_ h_;cases h_)
 rw[hd] at h
 exact h
theorem lJ(b n wb:Nat)(S:Ts)(W:Wst)(a d e f i j bt ba cp k nz oz og wy:Int)(S2:Ts)(W2:Wst)(hd:Bo S W.now bt= [nz])(hr:FK (⟨bt,ba,cp⟩:Cf) W.now (S,W) [nz])(hp:EX (⟨bt,ba,cp⟩:Cf) W.now (S,W) [nz]=(S2,W2))(ha:D4 (⟨bt,ba,cp⟩:Cf) W.now (S,W) [nz]= [(⟨0,(1,oz,og),wy,1⟩:At)])(_:0≤bt-1)(_:0≤ -bt+64)(_:0≤ba-1)(_:0≤cp-ba)(_:0≤ -cp+1048576):HT prog 217 [pV b,pV wb,.agg #[iV a,iV d,iV e,iV f,iV i,iV j,iV bt,iV ba,iV cp,uV k]] [TW b n S,Wd wb W] (fun v K=> ∃p:Option Addr,∃c:Nat,v=.tuple #[.slice p 1 c,iV 0]∧K= [TW b n S2,Wd wb W2,Sl 50 6 p 1 c (fl DM [(⟨0,(1,oz,og),wy,1⟩:At)])]):=by
 have h:=Z7 b n wb S W a d e f i j bt ba cp k ⟨by omega,by omega,by unfold lE;rw[if_neg om]⟩ (by rw[hd];exact hr)
 rw[hd,hp,ha] at h
 exact h
theorem zG(ba cp:Int)(_:0≤ba-1)(_:0≤cp-ba)(_:0≤ -cp+1048576):HQ 58 [iV ba,iV cp] [] (iV 0) []:=by
 have h:=Qo ba cp
 rw[show lE ba cp=0 from by unfold lE;rw[if_neg om]] at h
 exact h
theorem WZ(a:Nat)(_:0≤(a:Int)-1)(_:0≤ -(a:Int)+256):HQ 57 [iV a,iV 256] [] (bT) []:=by
 refine AC func57 ntmps57 fun g w0 R h0=>go [.v 1 1 (oT ((a:Int)≥1)),.v 1 5 (oT ((a:Int)≤256))] ?_
 exact AD _ [] h0
theorem Wa(a:Int)(_:0≤a-1)(_:0≤ -a+256):HQ 57 [iV a,iV 256] [] (bT) []:=by
 refine AC func57 ntmps57 fun g w0 R h0=>go [.v 1 1 (oT (a≥1)),.v 1 5 (oT (a≤256))] ?_
 exact AD _ [] h0
theorem Wb(a:Nat)(_:0≤(a:Int)-1)(_:0≤ -(a:Int)+4):HQ 57 [iV a,iV 4] [] (bT) []:=by
 refine AC func57 ntmps57 fun g w0 R h0=>go [.v 1 1 (oT ((a:Int)≥1)),.v 1 5 (oT ((a:Int)≤4))] ?_
 exact AD _ [] h0
theorem Gk(a:Int)(_:0≤a-1)(_:0≤ -a+64):HQ 57 [iV a,iV 64] [] (bT) []:=by
 refine AC func57 ntmps57 fun g w0 R h0=>go [.v 1 1 (oT (a≥1)),.v 1 5 (oT (a≤64))] ?_
 exact AD _ [] h0
theorem K6(b c:Nat)(d e:Int)(f:Nat)(i j k l m:Int)(_:0≤(b:Int)-1)(_:0≤ -(b:Int)+256)(_:0≤i-1)(_:0≤ -i+256)(_:0≤(c:Int)-1)(_:0≤ -(c:Int)+4)(_:0≤d-1)(_:0≤ -d+64)(_:0≤e-1)(_:0≤ -e+64)(_:0≤(f:Int)-1)(_:0≤ -(f:Int)+64)(_:0≤j-1)(_:0≤ -j+64)(_:0≤k-1)(_:0≤l-k)(_:0≤ -l+1048576)(_:0≤m-1):HQ 26 [.agg #[iV b,iV c,iV d,iV e,iV f,iV i,iV j,iV k,iV l,uV m]] [] (bT) []:=by
 refine AC func26 ntmps26 fun g w0 R h0=>g0<|nP 26 [iV b,iV c,iV d,iV e,iV f,iV i,iV j,iV k,iV l,uV m] h0 (fun _ _ p=> ?_)
 refine go [rd 1 1 0 0 1 p]<|AP call57 (WZ b om om) p fun _ q=>go [rd 1 5 0 5 1 q]<|AP call57 (Wa i om om) q fun _ s=>go [rd 1 10 0 1 1 s]<|AP call57 (Wb c om om) s fun _ t=>go [rd 1 15 0 2 1 t]<|AP call57 (Gk d om om) t fun _ u=>go [rd 1 20 0 3 1 u]<|AP call57 (Gk e om om) u fun _ x=>go [rd 1 25 0 4 1 x]<|AP call57 (Gk (f:Int) om om) x fun _ y=>go [rd 1 30 0 6 1 y] ?_
 refine AP call57 (Gk j om om) y fun _ o=>go [rd 1 35 0 7 1 o,rd 1 37 0 8 1 o]<|AP call58 (zG k l om om om) o fun _ z=>go [rd 1 43 0 9 1 z,.v 1 44 (oT (m≥1))] ?_
 exact AD _ [] z.a.t1
theorem wA(n m:Nat)(zz yy:Int)(q:Nat)(mq bt ba cp fi:Int)(_:0≤(n:Int)-1)(_:0≤ -(n:Int)+256)(_:0≤(m:Int)-1)(_:0≤ -(m:Int)+4)(_:0≤zz-1)(_:0≤ -zz+64)(_:0≤yy-1)(_:0≤ -yy+64)(_:0≤(q:Int)-1)(_:0≤ -(q:Int)+64)(_:0≤mq-1)(_:0≤ -mq+256)(_:0≤bt-1)(_:0≤ -bt+64)(_:0≤ba-1)(_:0≤cp-ba)(_:0≤ -cp+1048576)(_:0≤fi-1)(_:0≤ -fi+4294967295):HT prog 16 [.agg #[iV n,iV m,iV zz,iV yy,iV q,iV mq,iV bt,iV ba,iV cp,uV fi]] [] (fun v K=> ∃b:Nat,∃ar:Nat,∃yc:Nat,∃rq:Nat,∃tb:Nat,∃wd:Nat,∃qo:Nat,∃lk:Nat,v= .tuple #[pV b,iV 0]∧K= [AU b ar yc rq n m zz yy q mq bt ba cp fi tb wd qo lk,B2 ar n m (List.replicate n (0,fi)),Cy yc n m 0 0 0 0 (n:Int) 0,Bl rq q 0,TW tb 256 (⟨List.replicate 256 (0,fi),[],[]⟩),Wd wd (Fz fi),Cl qo [iV mq,pO] 191,Bj lk 0 []]):=by
 refine AC func16 ntmps16 fun g w0 R h0=>g0<|nP 26 [iV n,iV m,iV zz,iV yy,iV q,iV mq,iV bt,iV ba,iV cp,uV fi] h0 (fun _ _ D=> ?_)
 refine go [rd 1 0 0 0 10 D]<|AP call26 (K6 n m zz yy q mq bt ba cp fi om om om om om om om om om om om om om om om om om om) D fun _ N=>g0<|dw (Tr.fl 0 (Tr.an 1 (Tr.fl 2 (Tr.an 3 (Tr.fl 4 Tr.nil))))) N fun _ E=>go [rd 3 0 0 0 10 E]<|cG call27 vR E ?_
 rintro v K _ (⟨k,rfl,rfl⟩) O
 have F:=B3 O
 refine⟨kd [rd 0 0 1 0 10 F],?_⟩
 refine g0<|nG (fun q_=>pV q_) 84 [pO,pO,pO,iV n,iV m,iV zz,iV yy,iV q,iV mq,iV bt,iV ba,iV cp,uV fi,pO,pO,pO,pV k] F (fun P _ Q=>⟨kd [],?_⟩)
 refine g0<|nP 89 [iV 0,iV 0,iV 0,iV 0,iV 0,iV 0] Q (fun a _ A=> ?_)
 refine go [rd 5 2 3 0 1 A,rd 5 4 3 1 1 A,rd 5 6 3 9 1 A]<|cP call28 (gV n m fi om om om om om om) A ?_
 rintro v K _ (⟨l,rfl,rfl⟩) S
 have T:=(B3 S).b.t6
 refine g0<|sP [(0,pV l)] [pV l,pO,pO,iV n,iV m,iV zz,iV yy,iV q,iV mq,iV bt,iV ba,iV cp,uV fi,pO,pO,pO,pV k] T fun _ U=>AS (pV a) (AA (x:=Ot 5) (i:=(Operand.const (iV 0))) (b:=a) (off:=0) (z:=0) kr underlying89 1 kr 0 kr kr om om 0 om _)<|sP [(0,iV 0)] [iV 0,iV 0,iV 0,iV 0,iV 0,iV 0] U.b.t6 fun _ G=>go [rd 6 1 4 0 10 G]<|cP call29 (uR n m mq ba cp (q:Int) bt fi zz yy om om om om om om om om) G ?_
 rintro v K _ (⟨o,rfl,rfl⟩) V
 have W:=(B3 V).b.t7
 refine g0<|sP [(1,pV o)] [pV l,pV o,pO,iV n,iV m,iV zz,iV yy,iV q,iV mq,iV bt,iV ba,iV cp,uV fi,pO,pO,pO,pV k] W fun _ X=>AS (.pointer (some ⟨a,1,none⟩)) (AA (x:=Ot 5) (i:=(Operand.const (iV 1))) (b:=a) (off:=0) (z:=1) kr underlying89 1 kr 1 kr kr om om 1 om _)<|sP [(1,iV 0)] [iV 0,iV 0,iV 0,iV 0,iV 0,iV 0] X.b.t7 fun _ H=>go [rd 7 2 5 4 1 H]<|cP call30 (vM q om om) H ?_
 rintro v K _ (⟨p,rfl,rfl⟩) Y
 have Z:=(B3 Y).b.t8
 refine g0<|sP [(2,pV p)] [pV l,pV o,pV p,iV n,iV m,iV zz,iV yy,iV q,iV mq,iV bt,iV ba,iV cp,uV fi,pO,pO,pO,pV k] Z fun _ aa=>AS (.pointer (some ⟨a,2,none⟩)) (AA (x:=Ot 5) (i:=(Operand.const (iV 2))) (b:=a) (off:=0) (z:=2) kr underlying89 1 kr 2 kr kr om om 2 om _)<|sP [(2,iV 0)] [iV 0,iV 0,iV 0,iV 0,iV 0,iV 0] aa.b.t8 fun _ I=>go [rd 8 2 6 9 1 I]<|cP call31 (nK 256 fi om om) I ?_
 rintro v K _ (⟨u,rfl,rfl⟩) ab
 have ac:=(B3 ab).b.t9
 refine g0<|sP [(13,pV u)] [pV l,pV o,pV p,iV n,iV m,iV zz,iV yy,iV q,iV mq,iV bt,iV ba,iV cp,uV fi,pV u,pO,pO,pV k] ac fun _ ad=>AS (.pointer (some ⟨a,3,none⟩)) (AA (x:=Ot 5) (i:=(Operand.const (iV 3))) (b:=a) (off:=0) (z:=3) kr underlying89 1 kr 3 kr kr om om 3 om _)<|sP [(3,iV 0)] [iV 0,iV 0,iV 0,iV 0,iV 0,iV 0] ad.b.t9 fun _ J=>go [rd 9 2 7 9 1 J]<|cP call32 (fK fi om) J ?_
 rintro v K _ (⟨B,rfl,rfl⟩) ae
 have af:=(B3 ae).b.t10
 refine g0<|sP [(14,pV B)] [pV l,pV o,pV p,iV n,iV m,iV zz,iV yy,iV q,iV mq,iV bt,iV ba,iV cp,uV fi,pV u,pV B,pO,pV k] af fun _ ag=>AS (.pointer (some ⟨a,4,none⟩)) (AA (x:=Ot 5) (i:=(Operand.const (iV 4))) (b:=a) (off:=0) (z:=4) kr underlying89 1 kr 4 kr kr om om 4 om _)<|sP [(4,iV 0)] [iV 0,iV 0,iV 0,iV 0,iV 0,iV 0] ag.b.t10 fun _ L=>go [rd 10 2 8 5 1 L]<|cP call33 (vO mq om om) L ?_
 rintro v K _ (⟨C,rfl,rfl⟩) ah
 have ai:=(B3 ah).b.t11
 refine g0<|sP [(15,pV C)] [pV l,pV o,pV p,iV n,iV m,iV zz,iV yy,iV q,iV mq,iV bt,iV ba,iV cp,uV fi,pV u,pV B,pV C,pV k] ai fun _ aj=>AS (.pointer (some ⟨a,5,none⟩)) (AA (x:=Ot 5) (i:=(Operand.const (iV 5))) (b:=a) (off:=0) (z:=5) kr underlying89 1 kr 5 kr kr om om 5 om _)<|sP [(5,iV 0)] [iV 0,iV 0,iV 0,iV 0,iV 0,iV 0] aj.b.t11 fun _ M=>go [rd 11 0 0 0 6 M,.s 11 2]<|AS (.bool false) (gK (x:=Ot 79) (y:=Ot 80) (t:=89) (xs:= #[iV 0,iV 0,iV 0,iV 0,iV 0,iV 0]) kr kr kr kr kr kr kr _)<|g0 ?_
 exact en _ [] ⟨_,_,rfl,⟨P,l,o,p,u,B,C,k,rfl,rfl⟩,M.h.c.d.e.f.x.h.h.t11.j.h.h.h.h.h.h.h.h.t9⟩
theorem Ae(a b c d e f:Nat)(i j:Int)(k:Nat)(l m o p q:Int)(s t u x:Nat):HQ 23 [pV a] [AU a b c d e f i j k l m o p q s t u x] (bT) [AU a b c d e f i j k l m o p q s t u x]:=by
 refine AC func23 ntmps23 fun g w0 R y=>go [rd 1 6 0 13 1 y] ?_
 exact AD _ [] y
theorem Og(f i j k l m:Nat)(o p:Int)(q:Nat)(s t u x y:Int)(e z A B:Nat)(d:Ts):HQ 15 [pV f] [AU f i j k l m o p q s t u x y e z A B,TW e 256 d] (.agg #[iV (d.R.length:Int),iV (((AT d.R 1).length:Nat):Int),iV (((AT d.R 2).length:Nat):Int),iV (((AT d.R 3).length:Nat):Int),iV (((AT d.R 4).length:Nat):Int)]) [AU f i j k l m o p q s t u x y e z A B,TW e 256 d]:=by
 refine AC func15 ntmps15 fun g w0 R h0=>g0<|nP 59 [iV 0,iV 0,iV 0,iV 0,iV 0] h0 (fun _ _ F=> ?_)
 have G:=F.a.t4
 refine g0<|AF call23 (Ae f i j k l m o p q s t u x y e z A B) G fun _ C=> ?_
 have H:=C.b.t4
 refine go [rd 3 3 0 13 1 C]<|AF call25 (vQ e 256 d) H fun _ I=>g0<|nP 59 [iV 0,iV 0,iV 0,iV 0,iV 0] I (fun _ _ J=> ?_)
 refine sA [iV (d.R.length:Int),iV (((AT d.R 1).length:Nat):Int),iV (((AT d.R 2).length:Nat):Int),iV (((AT d.R 3).length:Nat):Int),iV (((AT d.R 4).length:Nat):Int)] J fun _ D=> ?_
 have L:=D.c.t5
 refine go [rd 4 0 0 0 5 D]<|sA [iV (d.R.length:Int),iV (((AT d.R 1).length:Nat):Int),iV (((AT d.R 2).length:Nat):Int),iV (((AT d.R 3).length:Nat):Int),iV (((AT d.R 4).length:Nat):Int)] L fun _ E=>g0 ?_
 exact AD _ [rd 0 0 0 0 5 E] E.b.c.t5.d.b.b.t3
theorem K7(b ar yc rq n m:Nat)(zz yy:Int)(q:Nat)(mq bt ba cp fi:Int)(tb wd qo lk:Nat)(S:Ts):HQ 220 [pV b] [AU b ar yc rq n m zz yy q mq bt ba cp fi tb wd qo lk,TW tb 256 S] (iV ((S.R.length:Int)-(((AT S.R 3).length:Nat):Int))) [AU b ar yc rq n m zz yy q mq bt ba cp fi tb wd qo lk,TW tb 256 S]:=by
 refine AC func220 ntmps220 fun g w0 R a=> ?_
 have hW_:=(Z6 (j:=1) a rfl);have hrl_:=hW_.rl;have hsm_:=Qb hW_
 refine g0<|DF call15 (Og b ar yc rq n m zz yy q mq bt ba cp fi tb wd qo lk S) a fun _ c=>AP call305 (qK (S.R.length:Int) (((AT S.R 1).length:Nat):Int) (((AT S.R 2).length:Nat):Int) (((AT S.R 3).length:Nat):Int) (((AT S.R 4).length:Nat):Int) om om om om om om om) c fun _ d=>g0 ?_
 exact AD _ [] d
theorem Ls(a c d b e:Nat)(f i:Int):HQ 92 [pV a] [Cl a [pV b,pV e,iV c,iV d,iV f,iV i,bF] 158] (pV b) [Cl a [pV b,pV e,iV c,iV d,iV f,iV i,bF] 158]:=by
 refine AC func92 ntmps92 fun g w0 R h0=>g0<|AF call114 (Ab a b e c d f i) h0 fun _ j=>go [rd 3 3 0 0 1 j] ?_
 exact AD _ [] j
theorem Oh(i:Nat)(j:Int)(t u y C D E F s G:Nat)(H I:Int)(J:Nat)(L M N O P:Int)(k Q S l:Nat)(m:Ts)(z:Int)(o:E3)(a c:Int)(f:List UInt8)(p:Nat)(q:Int)(A:Ts)(B:E3)(T:Dv m (1,a,c) f ((i:Int),j)=0)(U:FF m (1,a,c) f ((i:Int),j)=(1,(p:Int),q))(V:FE m (1,a,c) f ((i:Int),j)=A)(W:Aa o (1,a,c)=none)(X:Au o (1,a,c) (f, -1,0,0,2)=B)(_:0≤a)(_:0≤ -a+63)(_:0≤c-1)(_:0≤ -c+4294967295)(_:0≤(Ag f))(_:0≤ -(Ag f))(_:0≤ -(o.length:Int)+1999):HQ 204 [.agg #[iV i,uV j],pV t,pV u,pV y] [AU s F E G C D H I J L M N O P k Q S l,TW k 256 m,Bj l z o,Cl t [pV s] 55,Cl u [iV 1,iV a,uV c] 48,Cl y [sV f] 9] (.tuple #[.agg #[iV 1,iV p,uV q],iV 0]) [AU s F E G C D H I J L M N O P k Q S l,TW k 256 A,Bj l z B,Cl t [pV s] 55,Cl u [iV 1,iV a,uV c] 48,Cl y [sV f] 9]:=by
 refine AC func204 ntmps204 fun g w0 R h0=>g0<|nP 203 [iV i,uV j] h0 (fun _ _ ab=> ?_)
 refine nP 39 [iV 0,iV 0,uV 0] ab (fun _ _ ac=> ?_)
 refine g0<|dw (AE [0,1,2,3,4,5] (Tr.an 6 Tr.nil)) ac fun _ Z=> ?_
 have ad:=Z.d.t9
 refine go [rd 1 0 5 0 1 Z,rd 1 3 2 16 1 Z,rd 1 4 6 0 3 Z,rd 1 5 7 0 1 Z]<|BZ call205 (qL l z o a c f B W X om om om om om om om) ad fun _ ae=>⟨kd [],?_⟩
 refine g0<|dw (AE [0,1,2,3,4,5,6] (Tr.an 7 (AE [8,9] (Tr.an 10 (Tr.fl 11 Tr.nil))))) ae fun _ Y=> ?_
 have af:=Y.d.t9
 refine go [rd 2 0 5 0 1 Y,rd 2 3 3 13 1 Y,rd 2 4 6 0 3 Y,rd 2 5 7 0 1 Y,rd 2 6 2 0 2 Y]<|BZ call206 (vX k 256 m f a c i j A (p:Int) q T U V om om om om) af fun _ ag=>⟨kd [],?_⟩
 have ah:=ag.b.t9
 refine g0<|sB [iV 1,iV p,uV q] ah fun _ aa=>⟨kd [],?_⟩
 refine g0 ?_
 exact AD (.tuple #[.agg #[iV 1,iV p,uV q],iV 0]) [rd 0 0 0 0 3 aa] aa.x.x.x.e.e.x.t9.h.f.f.f.f.f.f.t7
theorem Z9(b ar yc rq n m:Nat)(zz yy:Int)(q:Nat)(mq bt ba cp fi:Int)(tb lk:Nat)(L:List UInt8)(A:List AM)(s:Nat)(gn ec bg at_ nx:Int)(S:Ts)(oz og:Int)(dk:Nat)(dg:Int)(S2:Ts)(tz:Int)(E E2:E3)(o p t wd qo:Nat)(hA:By A=some (s,gn))(hTE:Dv S (1,oz,og) L ((s:Int),gn)=0)(hTD:FF S (1,oz,og) L ((s:Int),gn)=(1,(dk:Int),dg))(hTS:FE S (1,oz,og) L ((s:Int),gn)=S2)(hG:Aa E (1,oz,og)=none)(hGS:Au E (1,oz,og) (L, -1,0,0,2)=E2)(_:0≤(m:Int)-1)(_:0≤(Ag L))(_:0≤ -(Ag L))(_:0≤ -(E.length:Int)+1999)(_:0≤oz)(_:0≤ -oz+63)(_:0≤og-1)(_:0≤ -og+4294967295)(_:0≤ -(dk:Int)+255)(_:0≤ -(s:Int)+255)(_:0≤(n:Int)-(s:Int)-1)(_:0≤ -(n:Int)+256)(_:0≤gn-1)(_:0≤dg)(_:0≤ -dg+4294967295):HQ 203 [pV b,iV 0,.func (Fn.func 204) #[] #[pV o,pV p,pV t]] [AU b ar yc rq n m zz yy q mq bt ba cp fi tb wd qo lk,B2 ar n m A,Cy yc n m 0 ec 0 at_ nx bg,Bl rq q 0,TW tb 256 S,Bj lk tz E,Cl o [pV b] 55,Cl p [iV 1,iV oz,uV og] 48,Cl t [sV L] 9] (.tuple #[.agg #[iV 1,iV dk,uV dg],iV 0]) [AU b ar yc rq n m zz yy q mq bt ba cp fi tb wd qo lk,RY ar n m (Ap A) s gn,Cy yc n m 0 ec 0 at_ nx bg,D2 rq q dk s gn,TW tb 256 S2,Bj lk tz E2,Cl o [pV b] 55,Cl p [iV 1,iV oz,uV og] 48,Cl t [sV L] 9]:=by
 refine AC func203 ntmps203 fun g w0 R h0=> ?_
 obtain⟨u,y,H,I,J,M,N,O,P⟩:=BT h0.b.t10
 have Q:sat g _ (Cl yc [pV u,pV y,iV n,iV m,iV at_,iV bg,bF] 158::_):=P
 refine g0<|nP 39 [iV 0,iV 0,uV 0] Q (fun ae _ B=> ?_)
 have T:=B.e.t13
 refine go [rd 1 4 4 0 1 B]<|AF call91 (ZN ar n m A s gn hA) T fun _ U=>g0<|nP 203 [iV 0,uV 0] U (fun af _ V=> ?_)
 refine sA [iV s,uV gn] V fun _ W=>g0<|dw (AE [0,1,2,3,4,6] (Tr.an 5 (Tr.an 7 Tr.nil))) W fun _ z=> ?_
 have X:=z.c.t14
 refine go [rd 4 4 6 1 1 z,rd 4 6 0 0 2 z]<|BZ call92 (Ls yc n m u y at_ bg) X fun _ C=>⟨kd [rd 0 6 1 0 2 C],?_⟩
 refine BZ call93 (uL u n m ec 0 (s:Int) gn om om om) C.d.t14 fun _ D=>⟨kd [],?_⟩
 have Y:=D.l.l.l.l.l.k.t14
 refine go [rd 5 1 2 0 2 D]<|U7 call204 (Oh s gn o p t n m yc ar b rq zz yy q mq bt ba cp fi tb wd qo lk S tz E oz og L dk dg S2 E2 hTE hTD hTS hG hGS om om om om om om om) Y fun _ Z=>g0<|nP 39 [iV 0,iV 0,uV 0] Z (fun ag _ aa=> ?_)
 refine sA [iV 1,iV dk,uV dg] aa fun _ ab=>g0<|dw (AE [0,1,2,3,4,5,6,7,8] (Tr.an 9 (Tr.an 10 (Tr.fl 11 Tr.nil)))) ab fun _ a=> ?_
 have ac:=a.m.t15
 refine go [rd 8 0 0 0 3 a,rd 8 5 1 2 1 a,rd 8 7 0 1 1 a,rd 8 8 9 0 2 a]<|BZ call272 (vN rq q dk s gn om om om) ac fun _ F=>⟨kd [rd 0 0 1 0 3 F],?_⟩
 refine sB [iV 1,iV dk,uV dg] F.l.t15 fun ah G=>⟨kd [],?_⟩
 refine g0 ?_
 have ad:sat g _ (Cy yc n m 0 ec 0 at_ nx bg::_):=Az yc n m 0 ec 0 at_ nx bg u y H I J M N O G.m.j.k.t15
 exact AD (.tuple #[.agg #[iV 1,iV dk,uV dg],iV 0]) [rd 0 0 0 0 3 G] ad.i.i.i.i.i.x.f.k.j.t13.l.i.i.i.i.i.i.i.i.i.t10
theorem Ja(b c d e f a:Nat)(i j:Int)(k:Nat)(l m o p q:Int)(s t u x:Nat)(_:0≤(a:Int)-1):HQ 198 [pV b,iV 0] [AU b c d e f a i j k l m o p q s t u x] (iV 0) [AU b c d e f a i j k l m o p q s t u x]:=by
 refine AC func198 ntmps198 fun g w0 R h0=>g0<|AF call23 (Ae b c d e f a i j k l m o p q s t u x) h0 fun _ y=>go [rd 3 8 0 4 1 y,.v 3 9 (oF (0≥(a:Int)))] ?_
 exact AD _ [] y
theorem Oi(a:Int)(_:0≤a)(_:0≤ -a+65535):HQ 199 [iV 1,iV a] [] (bT) []:=by
 refine AC func199 ntmps199 fun g w0 R h0=>go [.v 3 1 (oT (a≥0)),.v 3 4 (oT (a≤65535))] ?_
 exact AD _ [] h0
theorem Qq(o s f t i j:Nat)(u x:Int)(y:Nat)(k z A B C:Int)(m D l E:Nat)(d p q:Int)(e:Ts)(_:0≤(e.R.length:Int)-(((AT e.R 3).length:Nat):Int))(_:0≤k-(e.R.length:Int)+(((AT e.R 3).length:Nat):Int)-1)(_:0≤d)(_:0≤ -d+1099511627776):HQ 200 [pV o] [AU o s f t i j u x y k z A B C m D l E,Cy f i j 0 d 0 p q d,TW m 256 e,Cl l [iV k,pO] 191] (iV 0) [AU o s f t i j u x y k z A B C m D l E,Cy f i j 0 d 0 p q d,TW m 256 e,Cl l [iV k,pO] 191]:=by
 refine AC func200 ntmps200 fun g w0 R h0=>g0<|dw (AE [0,1,2,3,4,6,7,8,9,10,12,13,14,15,16] (Tr.an 5 (Tr.an 11 (Tr.an 17 (Tr.an 18 (Tr.fl 19 Tr.nil)))))) h0 fun _ F=> ?_
 have J:=F.b.a.t5
 refine go [rd 1 3 0 15 1 F,rd 1 10 0 1 1 F,rd 1 16 0 1 1 F]<|FN call220 (K7 o s f t i j u x y k z A B C m D l E e) J fun _ G=>⟨kd [rd 0 16 0 1 1 G,rd 0 10 0 1 1 G,rd 0 3 0 15 1 G],?_⟩
 refine BZ call263 (zC f i j 0 d 0 p q d) G.b.t5 fun _ H=>⟨kd [rd 0 16 1 1 1 H,rd 0 3 1 15 1 H],?_⟩
 refine BZ call264 (zD f i j 0 d 0 p q d) H fun _ I=>⟨kd [rd 0 3 1 15 1 I],?_⟩
 refine BZ call262 (vP l k ((e.R.length:Int)-(((AT e.R 3).length:Nat):Int)) d om om om om) I.c.t5 fun _ L=>⟨kd [],?_⟩
 refine g0 ?_
 exact AD _ [] L.c.b.c.t5
theorem Oj(d b:Nat)(e:List AM)(c:Nat)(_:0≤(b:Int)-1)(_:0≤ -(b:Int)+256):HQ 267 [pV d] [Cl d (pV c::iV b::fl Ce F256) 237,Tb c b e] (iV (((AJ 0 e 0).length:Nat):Int)) [Cl d (pV c::iV b::fl Ce F256) 237,Tb c b e]:=by
 refine AC func267 ntmps267 fun g w0 R h0=>g0<|AF call173 (Ej d c b) h0 fun _ f=> ?_
 have i:=f.a.t3
 refine go [rd 3 3 0 0 1 f]<|AF call279 (Hj c b e) i fun _ j=>g0 ?_
 exact AD _ [] j.a.t3
theorem Ok(m j p q e f:Nat)(s t:Int)(u:Nat)(o x y z B:Int)(k C D E:Nat)(l:Ts)(i:List AM)(_:0≤(((AJ 0 i 0).length:Nat):Int)-1)(_:0≤(((AJ 0 l.A 0).length:Nat):Int)-1)(_:0≤(e:Int)-1)(_:0≤ -(e:Int)+256)(_:0≤(f:Int)-1)(_:0≤o-1):HQ 201 [pV m,iV 0] [AU m j p q e f s t u o x y z B k C D E,TW k 256 l,B2 j e f i] (iV 0) [AU m j p q e f s t u o x y z B k C D E,TW k 256 l,B2 j e f i]:=by
 refine AC func201 ntmps201 fun g w0 R F=> ?_
 have I:=F.b.t4
 refine go [rd 1 4 0 0 1 F]<|cP call265 (gR j e f i 0 om) I ?_
 rintro v K _ (⟨Q,S,rfl,rfl⟩) J
 have G:=B3 J
 refine go [rd 4 8 1 0 1 G]<|cP call266 (ZM j e f i) G ?_
 rintro v K _ (⟨L,M,rfl,rfl⟩) N
 refine DF call267 (Oj L e i M om om) ((MG N).b.b.t6) fun _ H=> ?_
 have O:=H.d.t6
 refine go [.v 4 11 (DR (((AJ 0 i 0).length:Nat):Int) 0),rd 4 17 3 13 1 H]<|AF call268 (eC k 256 l) O fun _ P=>go [.v 4 19 (DR (((AJ 0 l.A 0).length:Nat):Int) 0)] ?_
 exact AD _ [] P.c.a.d.t6.e.c.c.c.t4
theorem qR(b ar yc rq n m:Nat)(zz yy:Int)(q:Nat)(mq bt ba cp fi:Int)(tb wd qo lk:Nat)(x:Int)(L:List UInt8)(A:List AM)(s:Nat)(gn ec at_ nx:Int)(S:Ts)(W W2:Wst)(oz og:Int)(dk:Nat)(dg:Int)(S2:Ts)(tz:Int)(E E2:E3)(hA:By A=some (s,gn))(hWE:Cs W 1 x=0)(hWO:CX W 1 x=(1,oz,og))(hWS:DY W 1 x=W2)(hTE:Dv S (1,oz,og) L ((s:Int),gn)=0)(hTD:FF S (1,oz,og) L ((s:Int),gn)=(1,(dk:Int),dg))(hTS:FE S (1,oz,og) L ((s:Int),gn)=S2)(hG:Aa E (1,oz,og)=none)(hGS:Au E (1,oz,og) (L, -1,0,0,2)=E2)(_:0≤(m:Int)-1)(_:0≤x)(_:0≤ -x+65535)(_:0≤(Ag L))(_:0≤ -(Ag L))(_:0≤mq-(S.R.length:Int)+(((AT S.R 3).length:Nat):Int)-1)(_:0≤(S.R.length:Int)-(((AT S.R 3).length:Nat):Int))(_:0≤ -(S.R.length:Int)+1999)(_:0≤(((AJ 0 S.A 0).length:Nat):Int)-1)(_:0≤(((AJ 0 A 0).length:Nat):Int)-1)(_:0≤ec)(_:0≤ -ec+1099511627776)(_:0≤ -(E.length:Int)+1999)(_:0≤oz)(_:0≤ -oz+63)(_:0≤og-1)(_:0≤ -og+4294967295)(_:0≤ -(dk:Int)+255)(_:0≤ -(s:Int)+255)(_:0≤(n:Int)-(s:Int)-1)(_:0≤ -(n:Int)+256)(_:0≤gn-1)(_:0≤dg)(_:0≤ -dg+4294967295):HQ 137 [pV b,iV 0,iV 1,iV x,sV L] [AU b ar yc rq n m zz yy q mq bt ba cp fi tb wd qo lk,B2 ar n m A,Cy yc n m 0 ec 0 at_ nx ec,Bl rq q 0,TW tb 256 S,Wd wd W,Cl qo [iV mq,pO] 191,Bj lk tz E] (.tuple #[.agg #[iV 1,iV dk,uV dg],iV 0]) [AU b ar yc rq n m zz yy q mq bt ba cp fi tb wd qo lk,RY ar n m (Ap A) s gn,Cy yc n m 0 ec 0 at_ nx ec,D2 rq q dk s gn,TW tb 256 S2,Wd wd W2,Cl qo [iV mq,pO] 191,Bj lk tz E2]:=by
 refine AC func137 ntmps137 fun g w0 R h0=>g0<|nP 55 [pV b] h0 (fun B _ C=> ?_)
 refine nP 9 [sV L] C (fun D _ F=> ?_)
 refine nP 39 [iV 0,iV 0,uV 0] F (fun Y _ o=> ?_)
 have G:=o.c.t12
 refine go [rd 1 0 2 0 1 o]<|AF call198 (Ja b ar yc rq n m zz yy q mq bt ba cp fi tb wd qo lk om) G fun _ H=>g0<|AP call199 (Oi x om om) H fun _ p=>go [rd 6 0 2 0 1 p]<|AP call131 (Zl L om om) p fun _ t=> ?_
 have I:=t.i.h.x.c.t12
 refine go [rd 9 0 3 0 1 t]<|IL call200 (Qq b ar yc rq n m zz yy q mq bt ba cp fi tb wd qo lk ec at_ nx S om om om om) I fun _ u=> ?_
 have J:=u.x.c.b.t12
 refine go [rd 12 0 6 0 1 u]<|IM call201 (Ok b ar yc rq n m zz yy q mq bt ba cp fi tb wd qo lk S A om om om om om om) J fun _ d=> ?_
 have M:=d.a.t12
 refine go [rd 12 5 7 0 1 d,rd 12 8 0 13 1 d]<|AF call54 (YL tb 256 S) M fun _ j=> ?_
 have N:=j.i.t12
 refine go [.v 12 10 (oF ((S.R.length:Int)≥2000)),rd 14 0 7 0 1 j,rd 14 3 1 14 1 j]<|AF call202 (vZ wd W x oz og W2 hWE hWO hWS) N fun _ O=>g0<|nP 48 [iV 0,iV 0,uV 0] O (fun P _ Q=> ?_)
 refine sA [iV 1,iV oz,uV og] Q fun _ y=> ?_
 have T:=y.h.a.i.k.e.k.i.i.i.t13
 refine go [rd 17 0 9 0 1 y]<|cP call203 (Z9 b ar yc rq n m zz yy q mq bt ba cp fi tb lk L A s gn ec ec at_ nx S oz og dk dg S2 tz E E2 B P D wd qo hA hTE hTD hTS hG hGS om om om om om om om om om om om om om om om) T ?_
 rintro v K Z (⟨rfl,rfl⟩) U
 have V:sat g _ (AU b ar yc rq n m zz yy q mq bt ba cp fi tb wd qo lk::_):=U
 have X:=V.k.t13
 refine g0<|sA [iV 1,iV dk,uV dg] X fun _ z=>g0 ?_
 exact AD (.tuple #[.agg #[iV 1,iV dk,uV dg],iV 0]) [rd 0 0 0 0 3 z] z.f.k.k.h.h.h.h.h.t13.l.h.h.h.h.h.h.h.h.t9
theorem wB(b ar yc rq n m:Nat)(zz yy:Int)(q:Nat)(mq bt ba cp fi:Int)(tb wd qo lk:Nat)(A:List AM)(s:Nat)(gn ec bg:Int)(p j:Nat)(_:0≤(m:Int)-(j:Int)-1)(_:0≤2*(n:Int)-(p:Int)+3)(_:0≤(n:Int)-(s:Int)-1):HQ 135 [pV b,iV j] [AU b ar yc rq n m zz yy q mq bt ba cp fi tb wd qo lk,C8 yc n m ec bg p j,Cw ar n m A s gn p] (iV (H1 p)) [AU b ar yc rq n m zz yy q mq bt ba cp fi tb wd qo lk,C8 yc n m ec bg p (j+1),Cw ar n m A s gn p]:=by
 refine AC func135 ntmps135 fun g w0 R h0=>g0<|AF call23 (Ae b ar yc rq n m zz yy q mq bt ba cp fi tb wd qo lk) h0 fun _ c=>g0<|dw (AE [0,1,2,3,4,5,6,7,8,9,10] (Tr.an 11 (AE [12,13,14,15,16] Tr.nil))) c fun _ a=> ?_
 have d:=a.b.b.t4
 refine go [rd 3 4 0 1 1 a,rd 3 9 0 0 1 a]<|FN call197 (pZ yc ar n m A s gn ec bg p j om om om) d fun _ e=>⟨kd [],?_⟩
 refine g0 ?_
 exact AD _ [] e.b.t4
theorem Gl(a:Nat)(_:0≤(a:Int)-1)(_:0≤ -(a:Int)+10000):HQ 57 [iV a,iV 10000] [] (bT) []:=by
 refine AC func57 ntmps57 fun g w0 R h0=>go [.v 1 1 (oT ((a:Int)≥1)),.v 1 5 (oT ((a:Int)≤10000))] ?_
 exact AD _ [] h0
theorem qS(b ar yc rq n m:Nat)(zz yy:Int)(q:Nat)(mq bt ba cp fi:Int)(tb wd qo lk:Nat)(A:List AM)(s:Nat)(gn ec bg:Int)(p j:Nat)(f:Int)(k:Nat)(hG:RZ n m p j)(_:0≤(k:Int)-1)(_:0≤ -(k:Int)+10000)(_:0≤(n:Int)-(s:Int)-1)(_:0≤ec)(_:0≤ -ec+1000000)(_:0≤(m:Int)-1)(_:0≤(q:Int)-1)(_:0≤gn-1):HQ 142 [pV b,iV k] [AU b ar yc rq n m zz yy q mq bt ba cp fi tb wd qo lk,C8 yc n m ec bg p j,Cw ar n m A s gn p,Bl rq q f] (iV 0) [AU b ar yc rq n m zz yy q mq bt ba cp fi tb wd qo lk,C8 yc n m ec bg ((mv n m k (p,j)).1) ((mv n m k (p,j)).2),Cw ar n m A s gn ((mv n m k (p,j)).1),Bl rq q f]:=by
 refine AC func142 ntmps142 fun g w0 R h0=>g0<|AF call23 (Ae b ar yc rq n m zz yy q mq bt ba cp fi tb wd qo lk) h0 fun _ F=>g0<|AP call57 (Gl k om om) F fun _ G=>g0 ?_
 refine Jc (fun mz_ a w=> ∃i:Nat,∃lr:Fr,mz_=k-i∧(i≤k)∧a=mk 52 (([(0,pV b),(16,iV k),(17,iV i)]:Fr)++lr)∧sat g w [AU b ar yc rq n m zz yy q mq bt ba cp fi tb wd qo lk,C8 yc n m ec bg ((mv n m i (p,j)).1) ((mv n m i (p,j)).2),Cw ar n m A s gn ((mv n m i (p,j)).1),Bl rq q f,R]) (k-0) ⟨0,_,rfl,(Nat.zero_le _),(Ck [.k 0 (pV b),.k 16 (iV k),.o 17 (oJ .i64 0 (0:Int))]),G⟩ ?_
 rintro ao ap aq ⟨i,au,rfl,hi_,rfl,D⟩
 refine ga<|go [.s 6 0] ?_
 by_cases E:(i:Int)<(k:Int)
 ·
  refine go [.v 6 0 (oT _ E)]<|dw (AE [0,1,2,3,4,5,6,7,8,9,10,11,12,13,14] (Tr.an2 15 (Tr.an2 16 (AE [17,18,19,20] (Tr.an 21 (Tr.an 22 (AE [23,24] Tr.nil)))) 21 (Tr.an 16 (AE [17,18,19,20] (Tr.an 22 (AE [23,24] Tr.nil))))) 21 (Tr.an 15 (Tr.an 16 (AE [17,18,19,20] (Tr.an 22 (AE [23,24] Tr.nil))))))) D fun _ l=>go [rd 7 4 0 1 1 l,rd 7 9 0 0 1 l,rd 7 14 0 2 1 l] ?_
  refine IN ?_ ?_;rotate_left
  ·
   refine nG (fun q_=>pV q_) 203 [iV 0,uV 0] l (fun _ _ u=>⟨kd [rd 0 14 1 2 1 u,rd 0 9 1 0 1 u,rd 0 4 1 1 1 u],?_⟩)
   refine BZ call214 (Uo rq q f) u.d.t6 fun _ x=>⟨kd [rd 0 9 2 0 1 x,rd 0 4 2 1 1 x],?_⟩
   by_cases av:(((mv n m i (p,j)).1:Nat):Int)=(s:Int)+3
   ·
    refine FN call213 (FJ yc ar n m A s gn ec bg ((mv n m i (p,j)).1) ((mv n m i (p,j)).2) (q:Int) om om om om) x.d.d.t6 fun _ H=>⟨kd [],?_⟩
    have I:=H.c.t6
    refine g0<|sB [iV s,uV gn] I fun _ J=>⟨kd [],?_⟩
    refine g0<|dw (AE [0,1,2,3,4,5] (Tr.an 6 Tr.nil)) J fun _ z=> ?_
    have L:=z.c.t6
    refine go [rd 11 4 4 2 1 z,rd 11 5 0 0 2 z]<|BZ call215 (K4 rq q f s gn) L fun _ M=>⟨kd [],?_⟩
    refine go [.v 12 0 (CD ((i:Int)+1))] ?_
    refine ET ?_
    have N:=M.e.a.d.d.e.t6.t5
    change ∃n',n'<_∧_
    refine⟨(k-(i+1)),by omega,(i+1),_,rfl,om,(Ck [.k 0 (pV b),.k 16 (iV k),.o 17 (oJ .i64 ((i:Int)+1) (((i+1):Nat):Int))]),N⟩
   refine FN call213 (DZ yc ar n m A s gn ec bg ((mv n m i (p,j)).1) ((mv n m i (p,j)).2) (q:Int) (Ua om hG i) om om om om om om) x.d.d.t6 fun _ O=>⟨kd [],?_⟩
   have P:=O.c.t6
   refine g0<|sB [iV 0,uV 0] P fun _ Q=>⟨kd [],?_⟩
   refine go [.v 12 0 (CD ((i:Int)+1))] ?_
   refine ET ?_
   have S:=Q.e.d.d.d.e.t6.t5
   change ∃n',n'<_∧_
   refine⟨(k-(i+1)),by omega,(i+1),_,rfl,om,(Ck [.k 0 (pV b),.k 16 (iV k),.o 17 (oJ .i64 ((i:Int)+1) (((i+1):Nat):Int))]),S⟩
  refine BZ call214 (Uo rq q f) l.c.t5 fun _ t=>⟨kd [rd 0 9 1 0 1 t,rd 0 4 1 1 1 t],?_⟩
  refine IN ?_ ?_
  ·
   by_cases aw:(((mv n m i (p,j)).1:Nat):Int)=(s:Int)+3
   ·
    refine FN call213 (FJ yc ar n m A s gn ec bg ((mv n m i (p,j)).1) ((mv n m i (p,j)).2) (q:Int) om om om om) t.c.c.t5 fun _ T=>⟨kd [],?_⟩
    refine g0<|nG (fun q_=>pV q_) 203 [iV 0,uV 0] T (fun _ _ U=>⟨kd [],?_⟩)
    refine sB [iV s,uV gn] U fun _ V=>⟨kd [],?_⟩
    refine g0<|dw (AE [0,1,2,3,4,5] (Tr.an 6 Tr.nil)) V fun _ B=> ?_
    have W:=B.c.t6
    refine go [rd 11 4 4 2 1 B,rd 11 5 0 0 2 B]<|BZ call215 (K4 rq q f s gn) W fun _ X=>⟨kd [],?_⟩
    refine go [.v 12 0 (CD ((i:Int)+1))] ?_
    refine ET ?_
    have Y:=X.e.a.d.d.e.t6.t5
    change ∃n',n'<_∧_
    refine⟨(k-(i+1)),by omega,(i+1),_,rfl,om,(Ck [.k 0 (pV b),.k 16 (iV k),.o 17 (oJ .i64 ((i:Int)+1) (((i+1):Nat):Int))]),Y⟩
   refine FN call213 (DZ yc ar n m A s gn ec bg ((mv n m i (p,j)).1) ((mv n m i (p,j)).2) (q:Int) (Ua om hG i) om om om om om om) t.c.c.t5 fun _ Z=>⟨kd [],?_⟩
   refine g0<|nG (fun q_=>pV q_) 203 [iV 0,uV 0] Z (fun _ _ aa=>⟨kd [],?_⟩)
   refine sB [iV 0,uV 0] aa fun _ ab=>⟨kd [],?_⟩
   refine go [.v 12 0 (CD ((i:Int)+1))] ?_
   refine ET ?_
   have ac:=ab.e.d.d.d.e.t6.t5
   change ∃n',n'<_∧_
   refine⟨(k-(i+1)),by omega,(i+1),_,rfl,om,(Ck [.k 0 (pV b),.k 16 (iV k),.o 17 (oJ .i64 ((i:Int)+1) (((i+1):Nat):Int))]),ac⟩
  refine nG (fun q_=>pV q_) 203 [iV 0,uV 0] t (fun _ _ y=>⟨kd [rd 0 9 2 0 1 y,rd 0 4 2 1 1 y],?_⟩)
  by_cases ax:(((mv n m i (p,j)).1:Nat):Int)=(s:Int)+3
  ·
   refine FN call213 (FJ yc ar n m A s gn ec bg ((mv n m i (p,j)).1) ((mv n m i (p,j)).2) (q:Int) om om om om) y.d.d.t6 fun _ ad=>⟨kd [],?_⟩
   have ae:=ad.b.t6
   refine g0<|sB [iV s,uV gn] ae fun _ af=>⟨kd [],?_⟩
   refine g0<|dw (AE [0,1,2,3,4,5] (Tr.an 6 Tr.nil)) af fun _ C=> ?_
   have ag:=C.c.t6
   refine go [rd 11 4 4 2 1 C,rd 11 5 0 0 2 C]<|BZ call215 (K4 rq q f s gn) ag fun _ ah=>⟨kd [],?_⟩
   refine go [.v 12 0 (CD ((i:Int)+1))] ?_
   refine ET ?_
   have ai:=ah.e.a.d.d.e.t6.t5
   change ∃n',n'<_∧_
   refine⟨(k-(i+1)),by omega,(i+1),_,rfl,om,(Ck [.k 0 (pV b),.k 16 (iV k),.o 17 (oJ .i64 ((i:Int)+1) (((i+1):Nat):Int))]),ai⟩
  refine FN call213 (DZ yc ar n m A s gn ec bg ((mv n m i (p,j)).1) ((mv n m i (p,j)).2) (q:Int) (Ua om hG i) om om om om om om) y.d.d.t6 fun _ aj=>⟨kd [],?_⟩
  have ak:=aj.b.t6
  refine g0<|sB [iV 0,uV 0] ak fun _ al=>⟨kd [],?_⟩
  refine go [.v 12 0 (CD ((i:Int)+1))] ?_
  refine ET ?_
  have am:=al.e.d.d.d.e.t6.t5
  change ∃n',n'<_∧_
  refine⟨(k-(i+1)),by omega,(i+1),_,rfl,om,(Ck [.k 0 (pV b),.k 16 (iV k),.o 17 (oJ .i64 ((i:Int)+1) (((i+1):Nat):Int))]),am⟩
 refine go [.v 6 0 (oF _ E)]<|up<|g0 ?_
 obtain rfl:i=k:=by omega
 exact AD _ [] D
theorem wC(oz og:Int)(L:List UInt8)(_:0≤oz)(_:0≤ -oz+63)(_:0≤og-1)(_:0≤ -og+4294967295)(_:0≤(Ag L))(_:0≤ -(Ag L)):HQ 352 [.agg #[iV 1,iV oz,uV og,iV 1,iV 0,iV 0,iV 0,sV L]] [] (iV 0) []:=by
 have h:=DW 1 oz og 1 0 0 0 L om om (by have:=GN (show Ag L=0 by omega);omega)
 rw[show DH 1 oz og 1 0 0 0 L=0 from (if_pos (by unfold CH;omega)).trans om] at h
 exact h
theorem K8(m o k b p q e f:Nat)(s t:Int)(u:Nat)(x y z A B:Int)(C D E F:Nat)(l:List AM)(i:Nat)(j:Int):HQ 99 [pV m,pV o] [AU k b p q e f s t u x y z A B C D E F,Cl o [iV 4,iV 0,iV 0,iV 0,iV 0,sV []] 37,Cl m [pV k] 55,RY b e f l i j] (iV 0) [AU k b p q e f s t u x y z A B C D E F,Cl o [iV 4,iV 0,iV 0,iV 0,iV 0,sV []] 37,Cl m [pV k] 55,BY b e f l i j]:=by
 refine AC func99 ntmps99 fun g w0 R h0=>g0<|dw (AE [0,1,2,3,4,5,6,7,8] (Tr.an2 9 (AE [10,11,12] (Tr.an 13 (Tr.an 14 (Tr.fl 15 Tr.nil)))) 13 (Tr.an 9 (AE [10,11,12] (Tr.an 14 (Tr.fl 15 Tr.nil)))))) h0 fun _ G=>go [rd 1 0 2 0 1 G,rd 1 4 0 0 1 G,rd 1 6 1 1 1 G,rd 1 8 1 2 1 G] ?_
 refine IN ?_ ?_
 ·
  refine BZ call100 (QL b e f l i j) G.c.t5 fun _ I=>⟨kd [],?_⟩
  refine g0<|nG (fun q_=>pV q_) 203 [iV 0,uV 0] I (fun _ _ J=>⟨kd [],?_⟩)
  refine sB [iV i,uV j] J fun _ L=>⟨kd [],?_⟩
  refine g0 ?_
  exact AD _ [] L.a.d.d.d.t6.e.d.d.d.d.t5
 refine nG (fun q_=>pV q_) 203 [iV 0,uV 0] G (fun _ _ H=>⟨kd [rd 0 8 2 2 1 H,rd 0 6 2 1 1 H,rd 0 4 1 0 1 H,rd 0 0 3 0 1 H],?_⟩)
 refine BZ call100 (QL b e f l i j) H.d.t6 fun _ M=>⟨kd [],?_⟩
 have N:=M.a.t6
 refine g0<|sB [iV i,uV j] N fun _ O=>⟨kd [],?_⟩
 refine g0 ?_
 exact AD _ [] O.a.d.d.d.t6.e.d.d.d.d.t5
theorem qT(b ar yc rq n m:Nat)(zz yy:Int)(q:Nat)(mq bt ba cp fi:Int)(tb wd qo lk:Nat)(A:List AM)(s:Nat)(gn:Int)(_:0≤(m:Int)-1):HQ 38 [pV b,.agg #[iV 4,iV 0,iV 0,iV 0,iV 0,sV []]] [AU b ar yc rq n m zz yy q mq bt ba cp fi tb wd qo lk,RY ar n m A s gn] (iV 0) [AU b ar yc rq n m zz yy q mq bt ba cp fi tb wd qo lk,BY ar n m A s gn]:=by
 refine AC func38 ntmps38 fun g w0 R h0=>g0<|nP 55 [pV b] h0 (fun f _ p=> ?_)
 refine nP 37 [iV 4,iV 0,iV 0,iV 0,iV 0,sV []] p (fun j _ l=> ?_)
 have t:=l.b.t5
 refine go [rd 1 0 1 0 1 l]<|AF call23 (Ae b ar yc rq n m zz yy q mq bt ba cp fi tb wd qo lk) t fun _ u=>g0<|nP 215 [Value.nilFunc,Value.nilFunc,Value.nilFunc,Value.nilFunc,Value.nilFunc,Value.nilFunc,Value.nilFunc] u (fun o _ y=> ?_)
 refine sA [Value.nilFunc,.func (Fn.func 90) #[] #[pV f,pV j],.func (Fn.func 94) #[] #[pV f,pV j],.func (Fn.func 96) #[] #[pV f,pV j],.func (Fn.func 99) #[] #[pV f,pV j],.func (Fn.func 101) #[] #[pV f,pV j],.func (Fn.func 103) #[] #[pV f,pV j]] y fun _ k=>go [rd 4 1 2 0 1 k,rd 4 5 2 0 1 k,rd 6 1 2 0 1 k,.s 6 2]<|AS (.pointer (some ⟨o,4,none⟩)) (AA (x:=Ot 5) (i:=Ot 25) (b:=o) (off:=0) (z:=4) kr underlying215 1 kr 4 kr kr om om 4 om _) ?_
 have B:=k.d.d.d.d.t6
 refine go [rd 6 3 0 4 1 k]<|IL call99 (K8 f j b ar yc rq n m zz yy q mq bt ba cp fi tb wd qo lk A s gn) B fun _ C=>g0 ?_
 exact AD _ [] C.c.a.t6.e.b.b.t3
theorem wD(b ar yc rq n m:Nat)(zz yy:Int)(q:Nat)(mq bt ba cp fi:Int)(tb wd qo lk:Nat)(ec sn at_ nx bg:Int)(_:0≤bg)(_:0≤ -bg+1000000):HQ 145 [pV b] [AU b ar yc rq n m zz yy q mq bt ba cp fi tb wd qo lk,Cy yc n m 0 ec sn at_ nx bg] (iV 0) [AU b ar yc rq n m zz yy q mq bt ba cp fi tb wd qo lk,Cy yc n m 1 ec 0 at_ nx (bg+1)]:=by
 refine AC func145 ntmps145 fun g w0 R h0=>g0<|AF call23 (Ae b ar yc rq n m zz yy q mq bt ba cp fi tb wd qo lk) h0 fun _ c=> ?_
 have d:=c.a.t3
 refine go [rd 3 4 0 1 1 c]<|AF call226 (uS yc n m ec sn at_ nx bg om om) d fun _ e=>g0 ?_
 exact AD _ [] e.a.t3
theorem GU(b c:Int)(d:List UInt8)(_:0≤b)(_:0≤ -b+63)(_:0≤c-1)(_:0≤ -c+4294967295)(_:0≤(Ag d))(_:0≤ -(Ag d)):HQ 386 [.agg #[iV 1,iV b,uV c,iV 1,iV 0,iV 0,iV 0,sV d],bT,iV 1] [] (iV 0) []:=by
 refine AC func386 ntmps386 fun g w0 R h0=>g0<|nP 226 [iV 1,iV b,uV c,iV 1,iV 0,iV 0,iV 0,sV d] h0 (fun _ _ e=> ?_)
 refine go [rd 1 0 0 0 8 e]<|AP call352 (wC b c d om om om om om om) e fun _ f=>go [rd 6 1 0 3 1 f] ?_
 exact AD _ [] f.a.t1
theorem Fp(c d:Int)(e:List UInt8)(_:0≤(Ag e))(_:0≤ -(Ag e))(_:0≤c)(_:0≤ -c+63)(_:0≤d-1)(_:0≤ -d+4294967295):HQ 315 [.agg #[iV 1,iV c,uV d,iV 1,iV 0,iV 0,iV 0,sV e],iV 1,iV 0] [] (.tuple #[.agg #[iV 1,iV c,uV d,iV 2,iV 1,iV 0,iV 0,sV e],iV 0]) []:=by
 refine AC func315 ntmps315 fun g w0 R h0=>g0<|nP 226 [iV 1,iV c,uV d,iV 1,iV 0,iV 0,iV 0,sV e] h0 (fun _ _ m=> ?_)
 refine nP 226 [iV 0,iV 0,uV 0,iV 0,iV 0,iV 0,iV 0,sV []] m (fun _ _ o=> ?_)
 refine g0<|dw (AE [0,1] (Tr.an 2 (AE [3,4] (Tr.an 5 (Tr.fl 6 (Tr.an 7 (Tr.fl 8 Tr.nil))))))) o fun _ f=>go [rd 1 0 1 0 8 f]<|CJ call387 (Na 1 1 3 om) f fun _ i=>⟨kd [rd 0 0 1 0 8 i],?_⟩
 refine g0<|CJ call388 (HA 0 om) i fun _ j=>⟨kd [rd 0 0 1 0 8 j],?_⟩
 refine g0<|CJ call386 (GU c d e om om om om om om) j fun _ p=>⟨kd [],?_⟩
 have q:=p.a.t3
 refine g0<|sP [(3,iV 2)] [iV 1,iV c,uV d,iV 2,iV 0,iV 0,iV 0,sV e] q fun _ s=>g0<|sP [(4,iV 1)] [iV 1,iV c,uV d,iV 2,iV 1,iV 0,iV 0,sV e] s fun _ t=>g0<|sP [(6,iV 0)] [iV 1,iV c,uV d,iV 2,iV 1,iV 0,iV 0,sV e] t fun _ k=> ?_
 have u:=k.a.t3
 refine go [rd 5 0 0 0 8 k]<|sA [iV 1,iV c,uV d,iV 2,iV 1,iV 0,iV 0,sV e] u fun _ l=>g0 ?_
 exact AD _ [rd 0 0 0 0 8 l] l.b.t1
theorem aB(b ar yc rq n m:Nat)(zz yy:Int)(q:Nat)(mq bt ba cp fi:Int)(tb wd qo lk:Nat)(L:List UInt8)(S2 S3:Ts)(W:Wst)(oz og nz:Int)(hG:AZ S2 nz=⟨(1,oz,og),1,0,0,0,L⟩)(hE:nE S2 nz=0)(hX:CS S2 nz ⟨(1,oz,og),2,1,0,0,L⟩=0)(hY:Cc S2 nz ⟨(1,oz,og),2,1,0,0,L⟩=S3)(hW:W.now=0)(_:0≤oz)(_:0≤ -oz+63)(_:0≤og-1)(_:0≤ -og+4294967295)(_:0≤(Ag L))(_:0≤ -(Ag L)):HQ 225 [pV b,iV nz,iV 1] [AU b ar yc rq n m zz yy q mq bt ba cp fi tb wd qo lk,TW tb 256 S2,Wd wd W] (.tuple #[]) [AU b ar yc rq n m zz yy q mq bt ba cp fi tb wd qo lk,TW tb 256 S3,Wd wd W]:=by
 refine AC func225 ntmps225 fun g w0 R p=> ?_
 have u:=p.a.t4
 refine go [rd 0 3 0 13 1 p]<|AF call210 (lH tb 256 S2 nz oz og L hG hE) u fun _ x=>g0<|nP 226 [iV 0,iV 0,uV 0,iV 0,iV 0,iV 0,iV 0,sV []] x (fun _ _ y=> ?_)
 refine sA [iV 1,iV oz,uV og,iV 1,iV 0,iV 0,iV 0,sV L] y fun _ z=>g0<|dw (AE [0,1,2,3,4,5] (Tr.an2 6 (Tr.an2 7 (AE [8,9,10] (Tr.an 11 (Tr.an 12 (Tr.fl 13 Tr.nil)))) 11 (Tr.an 7 (AE [8,9,10] (Tr.an 12 (Tr.fl 13 Tr.nil))))) 11 (Tr.an 6 (Tr.an 7 (AE [8,9,10] (Tr.an 12 (Tr.fl 13 Tr.nil))))))) z fun _ f=>go [rd 1 0 0 0 8 f,rd 1 5 2 14 1 f] ?_
 refine IN ?_ ?_
 ·
  refine BZ call301 (Uu wd W hW) f.c.t5 fun _ i=>⟨kd [rd 0 0 1 0 8 i],?_⟩
  refine IN ?_ ?_
  ·
   refine CJ call315 (Fp oz og L om om om om om om) i fun _ A=>⟨kd [],?_⟩
   refine g0<|nG (fun q_=>pV q_) 226 [iV 0,iV 0,uV 0,iV 0,iV 0,iV 0,iV 0,sV []] A (fun _ _ B=>⟨kd [],?_⟩)
   refine sB [iV 1,iV oz,uV og,iV 2,iV 1,iV 0,iV 0,sV L] B fun _ C=>⟨kd [],?_⟩
   refine g0<|dw (AE [0,1,2,3,4,5] (Tr.an 6 Tr.nil)) C fun _ j=> ?_
   have D:=j.c.t6
   refine go [rd 3 3 4 13 1 j,rd 3 5 0 0 8 j]<|BZ call316 (M0 tb 256 S2 nz oz og 1 L S3 hX hY om om om om) D fun _ E=>⟨kd [],?_⟩
   refine g0 ?_
   exact AD _ [] E.b.a.d.t6.e.c.c.c.t4
  refine nG (fun q_=>pV q_) 226 [iV 0,iV 0,uV 0,iV 0,iV 0,iV 0,iV 0,sV []] i (fun _ _ s=>⟨kd [rd 0 0 2 0 8 s],?_⟩)
  refine CJ call315 (Fp oz og L om om om om om om) s fun _ F=>⟨kd [],?_⟩
  refine g0<|sB [iV 1,iV oz,uV og,iV 2,iV 1,iV 0,iV 0,sV L] F fun _ G=>⟨kd [],?_⟩
  refine g0<|dw (AE [0,1,2,3,4,5] (Tr.an 6 Tr.nil)) G fun _ k=> ?_
  have H:=k.c.t6
  refine go [rd 3 3 4 13 1 k,rd 3 5 0 0 8 k]<|BZ call316 (M0 tb 256 S2 nz oz og 1 L S3 hX hY om om om om) H fun _ I=>⟨kd [],?_⟩
  refine g0 ?_
  exact AD _ [] I.b.a.d.t6.e.c.c.c.t4
 refine nG (fun q_=>pV q_) 226 [iV 0,iV 0,uV 0,iV 0,iV 0,iV 0,iV 0,sV []] f (fun _ _ l=>⟨kd [rd 0 5 3 14 1 l,rd 0 0 1 0 8 l],?_⟩)
 refine BZ call301 (Uu wd W hW) l.d.t6 fun _ t=>⟨kd [rd 0 0 2 0 8 t],?_⟩
 refine CJ call315 (Fp oz og L om om om om om om) t fun _ J=>⟨kd [],?_⟩
 have M:=J.a.t6
 refine g0<|sB [iV 1,iV oz,uV og,iV 2,iV 1,iV 0,iV 0,sV L] M fun _ N=>⟨kd [],?_⟩
 refine g0<|dw (AE [0,1,2,3,4,5] (Tr.an 6 Tr.nil)) N fun _ o=> ?_
 have O:=o.c.t6
 refine go [rd 3 3 4 13 1 o,rd 3 5 0 0 8 o]<|BZ call316 (M0 tb 256 S2 nz oz og 1 L S3 hX hY om om om om) O fun _ P=>⟨kd [],?_⟩
 refine g0 ?_
 exact AD _ [] P.b.a.d.t6.e.c.c.c.t4
theorem Fq(c d:Int)(e:List UInt8)(_:0≤(Ag e))(_:0≤ -(Ag e))(_:0≤c)(_:0≤ -c+63)(_:0≤d-1)(_:0≤ -d+4294967295):HQ 315 [.agg #[iV 1,iV c,uV d,iV 1,iV 0,iV 0,iV 0,sV e],iV 3,iV 0] [] (.tuple #[.agg #[iV 1,iV c,uV d,iV 2,iV 3,iV 0,iV 0,sV e],iV 0]) []:=by
 refine AC func315 ntmps315 fun g w0 R h0=>g0<|nP 226 [iV 1,iV c,uV d,iV 1,iV 0,iV 0,iV 0,sV e] h0 (fun _ _ m=> ?_)
 refine nP 226 [iV 0,iV 0,uV 0,iV 0,iV 0,iV 0,iV 0,sV []] m (fun _ _ o=> ?_)
 refine g0<|dw (AE [0,1] (Tr.an 2 (AE [3,4] (Tr.an 5 (Tr.fl 6 (Tr.an 7 (Tr.fl 8 Tr.nil))))))) o fun _ f=>go [rd 1 0 1 0 8 f]<|CJ call387 (Na 3 1 3 om) f fun _ i=>⟨kd [rd 0 0 1 0 8 i],?_⟩
 refine g0<|CJ call388 (HA 0 om) i fun _ j=>⟨kd [rd 0 0 1 0 8 j],?_⟩
 refine g0<|CJ call386 (GU c d e om om om om om om) j fun _ p=>⟨kd [],?_⟩
 have q:=p.a.t3
 refine g0<|sP [(3,iV 2)] [iV 1,iV c,uV d,iV 2,iV 0,iV 0,iV 0,sV e] q fun _ s=>g0<|sP [(4,iV 3)] [iV 1,iV c,uV d,iV 2,iV 3,iV 0,iV 0,sV e] s fun _ t=>g0<|sP [(6,iV 0)] [iV 1,iV c,uV d,iV 2,iV 3,iV 0,iV 0,sV e] t fun _ k=> ?_
 have u:=k.a.t3
 refine go [rd 5 0 0 0 8 k]<|sA [iV 1,iV c,uV d,iV 2,iV 3,iV 0,iV 0,sV e] u fun _ l=>g0 ?_
 exact AD _ [rd 0 0 0 0 8 l] l.b.t1
theorem qU(b ar yc rq n m:Nat)(zz yy:Int)(q:Nat)(mq bt ba cp fi:Int)(tb wd qo lk:Nat)(L:List UInt8)(S2 S3:Ts)(W:Wst)(oz og nz:Int)(hG:AZ S2 nz=⟨(1,oz,og),1,0,0,0,L⟩)(hE:nE S2 nz=0)(hX:CS S2 nz ⟨(1,oz,og),2,3,0,0,L⟩=0)(hY:Cc S2 nz ⟨(1,oz,og),2,3,0,0,L⟩=S3)(hW:W.now=0)(_:0≤oz)(_:0≤ -oz+63)(_:0≤og-1)(_:0≤ -og+4294967295)(_:0≤(Ag L))(_:0≤ -(Ag L)):HQ 225 [pV b,iV nz,iV 3] [AU b ar yc rq n m zz yy q mq bt ba cp fi tb wd qo lk,TW tb 256 S2,Wd wd W] (.tuple #[]) [AU b ar yc rq n m zz yy q mq bt ba cp fi tb wd qo lk,TW tb 256 S3,Wd wd W]:=by
 refine AC func225 ntmps225 fun g w0 R p=> ?_
 have u:=p.a.t4
 refine go [rd 0 3 0 13 1 p]<|AF call210 (lH tb 256 S2 nz oz og L hG hE) u fun _ x=>g0<|nP 226 [iV 0,iV 0,uV 0,iV 0,iV 0,iV 0,iV 0,sV []] x (fun _ _ y=> ?_)
 refine sA [iV 1,iV oz,uV og,iV 1,iV 0,iV 0,iV 0,sV L] y fun _ z=>g0<|dw (AE [0,1,2,3,4,5] (Tr.an2 6 (Tr.an2 7 (AE [8,9,10] (Tr.an 11 (Tr.an 12 (Tr.fl 13 Tr.nil)))) 11 (Tr.an 7 (AE [8,9,10] (Tr.an 12 (Tr.fl 13 Tr.nil))))) 11 (Tr.an 6 (Tr.an 7 (AE [8,9,10] (Tr.an 12 (Tr.fl 13 Tr.nil))))))) z fun _ f=>go [rd 1 0 0 0 8 f,rd 1 5 2 14 1 f] ?_
 refine IN ?_ ?_
 ·
  refine BZ call301 (Uu wd W hW) f.c.t5 fun _ i=>⟨kd [rd 0 0 1 0 8 i],?_⟩
  refine IN ?_ ?_
  ·
   refine CJ call315 (Fq oz og L om om om om om om) i fun _ A=>⟨kd [],?_⟩
   refine g0<|nG (fun q_=>pV q_) 226 [iV 0,iV 0,uV 0,iV 0,iV 0,iV 0,iV 0,sV []] A (fun _ _ B=>⟨kd [],?_⟩)
   refine sB [iV 1,iV oz,uV og,iV 2,iV 3,iV 0,iV 0,sV L] B fun _ C=>⟨kd [],?_⟩
   refine g0<|dw (AE [0,1,2,3,4,5] (Tr.an 6 Tr.nil)) C fun _ j=> ?_
   have D:=j.c.t6
   refine go [rd 3 3 4 13 1 j,rd 3 5 0 0 8 j]<|BZ call316 (M0 tb 256 S2 nz oz og 3 L S3 hX hY om om om om) D fun _ E=>⟨kd [],?_⟩
   refine g0 ?_
   exact AD _ [] E.b.a.d.t6.e.c.c.c.t4
  refine nG (fun q_=>pV q_) 226 [iV 0,iV 0,uV 0,iV 0,iV 0,iV 0,iV 0,sV []] i (fun _ _ s=>⟨kd [rd 0 0 2 0 8 s],?_⟩)
  refine CJ call315 (Fq oz og L om om om om om om) s fun _ F=>⟨kd [],?_⟩
  refine g0<|sB [iV 1,iV oz,uV og,iV 2,iV 3,iV 0,iV 0,sV L] F fun _ G=>⟨kd [],?_⟩
  refine g0<|dw (AE [0,1,2,3,4,5] (Tr.an 6 Tr.nil)) G fun _ k=> ?_
  have H:=k.c.t6
  refine go [rd 3 3 4 13 1 k,rd 3 5 0 0 8 k]<|BZ call316 (M0 tb 256 S2 nz oz og 3 L S3 hX hY om om om om) H fun _ I=>⟨kd [],?_⟩
  refine g0 ?_
  exact AD _ [] I.b.a.d.t6.e.c.c.c.t4
 refine nG (fun q_=>pV q_) 226 [iV 0,iV 0,uV 0,iV 0,iV 0,iV 0,iV 0,sV []] f (fun _ _ l=>⟨kd [rd 0 5 3 14 1 l,rd 0 0 1 0 8 l],?_⟩)
 refine BZ call301 (Uu wd W hW) l.d.t6 fun _ t=>⟨kd [rd 0 0 2 0 8 t],?_⟩
 refine CJ call315 (Fq oz og L om om om om om om) t fun _ J=>⟨kd [],?_⟩
 have M:=J.a.t6
 refine g0<|sB [iV 1,iV oz,uV og,iV 2,iV 3,iV 0,iV 0,sV L] M fun _ N=>⟨kd [],?_⟩
 refine g0<|dw (AE [0,1,2,3,4,5] (Tr.an 6 Tr.nil)) N fun _ o=> ?_
 have O:=o.c.t6
 refine go [rd 3 3 4 13 1 o,rd 3 5 0 0 8 o]<|BZ call316 (M0 tb 256 S2 nz oz og 3 L S3 hX hY om om om om) O fun _ P=>⟨kd [],?_⟩
 refine g0 ?_
 exact AD _ [] P.b.a.d.t6.e.c.c.c.t4
theorem JO(i d:Nat)(c:Int)(j k l m o:Nat)(p q:Int)(s:Nat)(t u x y z:Int)(e A B C:Nat)(f:Ts)(D:Int)(E:Ba f (1,(d:Int),c)=0)(F:(CR f (1,(d:Int),c)).num=D)(_:0≤ -(d:Int)+255)(_:0≤c-1)(_:0≤ -c+4294967295):HQ 207 [pV i,.agg #[iV 1,iV d,uV c]] [AU i j k l m o p q s t u x y z e A B C,TW e 256 f] (.tuple #[iV D,iV 0]) [AU i j k l m o p q s t u x y z e A B C,TW e 256 f]:=by
 refine AC func207 ntmps207 fun g w0 R h0=>g0<|nP 39 [iV 1,iV d,uV c] h0 (fun _ _ I=> ?_)
 have J:=I.a.t4
 refine g0<|AF call23 (Ae i j k l m o p q s t u x y z e A B C) J fun _ H=>go [rd 3 0 1 0 3 H]<|AP call281 (FD 1 (d:Int) c om om om) H fun _ L=>g0<|dw (AE [0,1,2,3,4] (Tr.an 5 (AE [6,7,8,9] Tr.nil))) L fun _ G=> ?_
 have M:=G.b.t4
 refine go [rd 6 3 0 13 1 G,rd 6 4 1 0 3 G]<|BZ call282 (lG e 256 f (d:Int) c D E F om om) M fun _ N=>⟨kd [],?_⟩
 refine g0 ?_
 exact AD _ [] N.a.t4.c.b.b.t3
theorem Lt(u e:Nat)(f:Int)(y z k A B:Nat)(C D:Int)(l:Nat)(E F G H I:Int)(m t J L:Nat)(o:Ts)(N:Nat)(O:Int)(x:Wst)(i:Int)(j:Ts)(p q:Int)(s:List UInt8)(M:Ts)(P:Ba o (1,(e:Int),f)=0)(Q:(CR o (1,(e:Int),f)).num=i)(S:EC o (1,(e:Int),f)=true)(T:Dw o (1,(e:Int),f)=j)(U:AZ j i=⟨(1,p,q),1,0,0,0,s⟩)(V:nE j i=0)(W:CS j i ⟨(1,p,q),2,1,0,0,s⟩=0)(X:Cc j i ⟨(1,p,q),2,1,0,0,s⟩=M)(Y:x.now=0)(_:0≤f)(_:0≤ -f+4294967295)(_:0≤p)(_:0≤ -p+63)(_:0≤q-1)(_:0≤ -q+4294967295)(_:0≤(Ag s))(_:0≤ -(Ag s)):HQ 212 [pV u,.agg #[iV 1,iV e,uV f],iV 1] [AU u y z k A B C D l E F G H I m t J L,TW m 256 o,D2 k l e N O,Wd t x] (iV 0) [AU u y z k A B C D l E F G H I m t J L,TW m 256 M,Bl k l 0,Wd t x]:=by
 refine AC func212 ntmps212 fun g w0 R h0=>g0<|nP 39 [iV 1,iV e,uV f] h0 (fun _ _ ab=> ?_)
 refine g0<|dw (AE [0,1,2,3,4,5,6] (Tr.an 7 Tr.nil)) ab fun _ Z=> ?_
 have ac:=Z.c.t6
 refine go [rd 1 4 1 2 1 Z,rd 1 6 0 1 1 Z]<|BZ call224 (qI k l e N O) ac fun _ ad=>⟨kd [],?_⟩
 refine g0<|dw (AE [0,1,2,3,4] (Tr.an 5 (AE [6,7,8,9,10,11,12] Tr.nil))) ad fun _ aa=> ?_
 have ae:=aa.c.t6
 refine go [rd 2 3 2 13 1 aa,rd 2 4 1 0 3 aa]<|BZ call288 (Z8 m 256 o (e:Int) f i j P Q S T om om) ae fun _ af=>⟨kd [],?_⟩
 have ag:=af.d.a.d.t6
 refine g0<|IM call225 (aB u y z k A B C D l E F G H I m t J L s j M x p q i U V W X Y om om om om om om) ag fun _ ah=>g0 ?_
 exact AD _ [] ah.c.b.b.t6.e.d.d.d.d.t5
theorem qV(b ar yc rq n m:Nat)(zz yy:Int)(q:Nat)(mq bt ba cp fi:Int)(tb wd qo lk:Nat)(L:List UInt8)(S S2 S3:Ts)(W:Wst)(oz og nz:Int)(dk:Nat)(dg:Int)(s:Nat)(gn:Int)(hF:Ba S (1,(dk:Int),dg)=0)(hN:(CR S (1,(dk:Int),dg)).num=nz)(hL:EC S (1,(dk:Int),dg)=true)(hS:Dw S (1,(dk:Int),dg)=S2)(hG:AZ S2 nz=⟨(1,oz,og),1,0,0,0,L⟩)(hE:nE S2 nz=0)(hX:CS S2 nz ⟨(1,oz,og),2,1,0,0,L⟩=0)(hY:Cc S2 nz ⟨(1,oz,og),2,1,0,0,L⟩=S3)(hW:W.now=0)(_:0≤dg-1)(_:0≤ -dg+4294967295)(_:0≤ -(dk:Int)+255)(_:0≤oz)(_:0≤ -oz+63)(_:0≤og-1)(_:0≤ -og+4294967295)(_:0≤(Ag L))(_:0≤ -(Ag L)):HQ 141 [pV b,.agg #[iV 1,iV dk,uV dg]] [AU b ar yc rq n m zz yy q mq bt ba cp fi tb wd qo lk,D2 rq q dk s gn,TW tb 256 S,Wd wd W] (iV 0) [AU b ar yc rq n m zz yy q mq bt ba cp fi tb wd qo lk,Bl rq q 0,TW tb 256 S3,Wd wd W]:=by
 refine AC func141 ntmps141 fun g w0 R h0=>g0<|nP 39 [iV 1,iV dk,uV dg] h0 (fun _ _ f=> ?_)
 have j:=f.c.b.t6
 refine go [rd 1 1 0 0 3 f]<|DF call207 (JO b dk dg ar yc rq n m zz yy q mq bt ba cp fi tb wd qo lk S nz hF hN om om om) j fun _ i=> ?_
 have k:=i.d.d.c.c.t6
 refine go [rd 4 1 2 0 3 i]<|IL call212 (Lt b dk dg ar yc rq n m zz yy q mq bt ba cp fi tb wd qo lk S s gn W nz S2 oz og L S3 hF hN hL hS hG hE hX hY hW om om om om om om om om) k fun _ l=>g0 ?_
 exact AD _ [] l.b.a.t6.e.d.d.d.d.t5
theorem Qr(f:Nat)(c:Int)(i j k l m:Nat)(o p:Int)(q:Nat)(s t u x y:Int)(d z A B:Nat)(e:Ts)(C:Int)(D:Ba e (1,0,c)=0)(E:(CR e (1,0,c)).num=C)(_:0≤c-1)(_:0≤ -c+4294967295):HQ 207 [pV f,.agg #[iV 1,iV 0,uV c]] [AU f i j k l m o p q s t u x y d z A B,TW d 256 e] (.tuple #[iV C,iV 0]) [AU f i j k l m o p q s t u x y d z A B,TW d 256 e]:=by
 refine AC func207 ntmps207 fun g w0 R h0=>g0<|nP 39 [iV 1,iV 0,uV c] h0 (fun _ _ H=> ?_)
 have I:=H.a.t4
 refine g0<|AF call23 (Ae f i j k l m o p q s t u x y d z A B) I fun _ G=>go [rd 3 0 1 0 3 G]<|AP call281 (FD 1 0 c om om om) G fun _ J=>g0<|dw (AE [0,1,2,3,4] (Tr.an 5 (AE [6,7,8,9] Tr.nil))) J fun _ F=> ?_
 have L:=F.b.t4
 refine go [rd 6 3 0 13 1 F,rd 6 4 1 0 3 F]<|BZ call282 (lG d 256 e 0 c C D E om om) L fun _ M=>⟨kd [],?_⟩
 refine g0 ?_
 exact AD _ [] M.a.t4.c.b.b.t3
theorem Lu(t:Nat)(e:Int)(x y j z A:Nat)(B C:Int)(k:Nat)(D E F G H:Int)(l s I J:Nat)(m:Ts)(u:Wst)(f:Int)(i:Ts)(o p:Int)(q:List UInt8)(L:Ts)(M:Ba m (1,0,e)=0)(N:(CR m (1,0,e)).num=f)(O:EC m (1,0,e)=true)(P:Dw m (1,0,e)=i)(Q:AZ i f=⟨(1,o,p),1,0,0,0,q⟩)(S:nE i f=0)(T:CS i f ⟨(1,o,p),2,1,0,0,q⟩=0)(U:Cc i f ⟨(1,o,p),2,1,0,0,q⟩=L)(V:u.now=0)(_:0≤e)(_:0≤ -e+4294967295)(_:0≤o)(_:0≤ -o+63)(_:0≤p-1)(_:0≤ -p+4294967295)(_:0≤(Ag q))(_:0≤ -(Ag q)):HQ 212 [pV t,.agg #[iV 1,iV 0,uV e],iV 1] [AU t x y j z A B C k D E F G H l s I J,TW l 256 m,F1 j k,Wd s u] (iV 0) [AU t x y j z A B C k D E F G H l s I J,TW l 256 L,Bl j k 0,Wd s u]:=by
 refine AC func212 ntmps212 fun g w0 R h0=>g0<|nP 39 [iV 1,iV 0,uV e] h0 (fun _ _ Y=> ?_)
 refine g0<|dw (AE [0,1,2,3,4,5,6] (Tr.an 7 Tr.nil)) Y fun _ W=> ?_
 have Z:=W.c.t6
 refine go [rd 1 4 1 2 1 W,rd 1 6 0 1 1 W]<|BZ call224 (qJ j k) Z fun _ aa=>⟨kd [],?_⟩
 refine g0<|dw (AE [0,1,2,3,4] (Tr.an 5 (AE [6,7,8,9,10,11,12] Tr.nil))) aa fun _ X=> ?_
 have ab:=X.c.t6
 refine go [rd 2 3 2 13 1 X,rd 2 4 1 0 3 X]<|BZ call288 (Z8 l 256 m 0 e f i M N O P om om) ab fun _ ac=>⟨kd [],?_⟩
 have ad:=ac.d.a.d.t6
 refine g0<|IM call225 (aB t x y j z A B C k D E F G H l s I J q i L u o p f Q S T U V om om om om om om) ad fun _ ae=>g0 ?_
 exact AD _ [] ae.c.b.b.t6.e.d.d.d.d.t5
theorem qW(b ar yc rq n m:Nat)(zz yy:Int)(q:Nat)(mq bt ba cp fi:Int)(tb wd qo lk:Nat)(L:List UInt8)(S S2 S3:Ts)(W:Wst)(oz og nz dg:Int)(hF:Ba S (1,0,dg)=0)(hN:(CR S (1,0,dg)).num=nz)(hL:EC S (1,0,dg)=true)(hS:Dw S (1,0,dg)=S2)(hG:AZ S2 nz=⟨(1,oz,og),1,0,0,0,L⟩)(hE:nE S2 nz=0)(hX:CS S2 nz ⟨(1,oz,og),2,1,0,0,L⟩=0)(hY:Cc S2 nz ⟨(1,oz,og),2,1,0,0,L⟩=S3)(hW:W.now=0)(_:0≤dg-1)(_:0≤ -dg+4294967295)(_:0≤oz)(_:0≤ -oz+63)(_:0≤og-1)(_:0≤ -og+4294967295)(_:0≤(Ag L))(_:0≤ -(Ag L)):HQ 141 [pV b,.agg #[iV 1,iV 0,uV dg]] [AU b ar yc rq n m zz yy q mq bt ba cp fi tb wd qo lk,F1 rq q,TW tb 256 S,Wd wd W] (iV 0) [AU b ar yc rq n m zz yy q mq bt ba cp fi tb wd qo lk,Bl rq q 0,TW tb 256 S3,Wd wd W]:=by
 refine AC func141 ntmps141 fun g w0 R h0=>g0<|nP 39 [iV 1,iV 0,uV dg] h0 (fun _ _ f=> ?_)
 have j:=f.c.b.t6
 refine go [rd 1 1 0 0 3 f]<|DF call207 (Qr b dg ar yc rq n m zz yy q mq bt ba cp fi tb wd qo lk S nz hF hN om om) j fun _ i=> ?_
 have k:=i.d.d.c.c.t6
 refine go [rd 4 1 2 0 3 i]<|IL call212 (Lu b dg ar yc rq n m zz yy q mq bt ba cp fi tb wd qo lk S W nz S2 oz og L S3 hF hN hL hS hG hE hX hY hW om om om om om om om om) k fun _ l=>g0 ?_
 exact AD _ [] l.b.a.t6.e.d.d.d.d.t5
theorem JP(f d:Nat)(c:Int)(j k l m o:Nat)(p q:Int)(s:Nat)(t u x y z:Int)(e A B C:Nat)(i:Ts)(D:Ba i (1,(d:Int),c)=7)(_:0≤ -(d:Int)+255)(_:0≤c-1)(_:0≤ -c+4294967295):HQ 207 [pV f,.agg #[iV 1,iV d,uV c]] [AU f j k l m o p q s t u x y z e A B C,TW e 256 i] (.tuple #[iV 0,iV 7]) [AU f j k l m o p q s t u x y z e A B C,TW e 256 i]:=by
 refine AC func207 ntmps207 fun g w0 R h0=>g0<|nP 39 [iV 1,iV d,uV c] h0 (fun _ _ G=> ?_)
 have H:=G.a.t4
 refine g0<|AF call23 (Ae f j k l m o p q s t u x y z e A B C) H fun _ F=>go [rd 3 0 1 0 3 F]<|AP call281 (FD 1 (d:Int) c om om om) F fun _ I=>g0<|dw (AE [0,1,2,3,4] (Tr.an 5 (AE [6,7,8,9] Tr.nil))) I fun _ E=> ?_
 have J:=E.b.t4
 refine go [rd 6 3 0 13 1 E,rd 6 4 1 0 3 E]<|BZ call282 (vY e 256 i (d:Int) c D om om) J fun _ L=>⟨kd [],?_⟩
 refine g0 ?_
 exact AD _ [] L.a.t4.c.b.b.t3
theorem qX(b ar yc rq n m:Nat)(zz yy:Int)(q:Nat)(mq bt ba cp fi:Int)(tb wd qo lk:Nat)(S:Ts)(dk:Nat)(dg:Int)(hF:Ba S (1,(dk:Int),dg)=7)(_:0≤dg-1)(_:0≤ -dg+4294967295)(_:0≤ -(dk:Int)+255):HQ 141 [pV b,.agg #[iV 1,iV dk,uV dg]] [AU b ar yc rq n m zz yy q mq bt ba cp fi tb wd qo lk,TW tb 256 S] (iV 7) [AU b ar yc rq n m zz yy q mq bt ba cp fi tb wd qo lk,TW tb 256 S]:=by
 refine AC func141 ntmps141 fun g w0 R h0=>g0<|nP 39 [iV 1,iV dk,uV dg] h0 (fun _ _ a=> ?_)
 have c:=a.b.b.t4
 refine go [rd 1 1 0 0 3 a]<|DF call207 (JP b dk dg ar yc rq n m zz yy q mq bt ba cp fi tb wd qo lk S hF om om om) c fun _ d=>g0 ?_
 exact AD _ [] d.C.t3
theorem Qs(r b ar yc rq n m:Nat)(zz yy:Int)(q:Nat)(mq bt ba cp fi:Int)(tb wd qo lk:Nat)(f:Int):IT prog 296 [pV r] 0 (fun _=> [.agg #[iV 0,iV 0,uV 0]]) [Cl r [pV b] 55,AU b ar yc rq n m zz yy q mq bt ba cp fi tb wd qo lk,Bl rq q f]:=by
 refine mH func296 ntmps296 fun g w0 R k_ J_ E_ hY h0=> ?_
 have a:sat g _ (J_ 0::_):=h0
 have d:=a.c.t5
 refine go [rd 0 0 1 0 1 a,rd 0 4 2 2 1 a]<|AF call297 (Uq rq q f) d fun _ e=>g0<|DS 39<|g0<|up<|g0 ?_
 have i:=e.c.c.c.t5
 have he_:0=0:=rfl
 exact en (.tuple #[]) [] ⟨⟨_,rfl⟩,.inl (he_▸i)⟩
theorem aC(r b ar yc rq n m:Nat)(zz yy:Int)(q:Nat)(mq bt ba cp fi:Int)(tb wd qo lk dk s:Nat)(gn:Int):IT prog 296 [pV r] 0 (fun _=> [.agg #[iV 0,iV 0,uV 0]]) [Cl r [pV b] 55,AU b ar yc rq n m zz yy q mq bt ba cp fi tb wd qo lk,D2 rq q dk s gn]:=by
 refine mH func296 ntmps296 fun g w0 R k_ J_ E_ hY h0=> ?_
 have a:sat g _ (J_ 0::_):=h0
 have d:=a.c.t5
 refine go [rd 0 0 1 0 1 a,rd 0 4 2 2 1 a]<|AF call297 (iW rq q dk s gn) d fun _ e=>g0<|DS 39<|g0<|up<|g0 ?_
 have f:=e.c.c.c.t5
 have he_:0=0:=rfl
 exact en (.tuple #[]) [] ⟨⟨_,rfl⟩,.inl (he_▸f)⟩
theorem Ev(a:Nat):HT prog 216 [pV a] [] (fun v K=> ∃b:Nat,v= .func (Fn.func 296) #[] #[pV b]∧K= [Cl b [pV a] 55]):=by
 refine AC func216 ntmps216 fun g w0 R h0=>g0<|nP 55 [pV a] h0 (fun b _ c=> ?_)
 refine g0 ?_
 exact en _ [] ⟨_,_,rfl,⟨b,rfl,rfl⟩,c⟩
theorem jJ(b ar yc rq n m:Nat)(zz yy:Int)(q:Nat)(mq bt ba cp fi:Int)(tb wd qo lk:Nat)(f:Int)(S:Ts)(W:Wst)(tz:Int)(E:E3)(hd:Bo S W.now bt= [])(_:0≤bt-1)(_:0≤ -bt+64)(_:0≤ba-1)(_:0≤cp-ba)(_:0≤ -cp+1048576)(_:0≤mq-1)(_:0≤(S.R.length:Int)-(((AT S.R 3).length:Nat):Int)):HT prog 143 [pV b] [AU b ar yc rq n m zz yy q mq bt ba cp fi tb wd qo lk,Bl rq q f,TW tb 256 S,Wd wd W,Cl qo [iV mq,pO] 191,Bj lk tz E] (fun v K=> ∃p:Option Addr,∃c:Nat,v= .tuple #[.slice p 0 c,iV 0]∧K= [AU b ar yc rq n m zz yy q mq bt ba cp fi tb wd qo lk,Bl rq q f,TW tb 256 S,Wd wd W,Cl qo [iV mq,pO] 191,Bj lk tz E,Sl 50 6 p 0 c (fl DM [])]):=by
 refine AC func143 ntmps143 fun g w0 R h0=>g0<|nP 55 [pV b] h0 (fun M _ o=> ?_)
 have y:=o.a.t8
 refine go [rd 1 0 0 0 1 o]<|AF call23 (Ae b ar yc rq n m zz yy q mq bt ba cp fi tb wd qo lk) y fun _ s=>go [rd 3 0 1 0 1 s]<|cP call216 (Ev b) s ?_
 rintro v K _ (⟨z,rfl,rfl⟩) A
 have B:=(B3 A).c.b.b.t9
 refine g0 ?_
 refine Rr (N:=0) (fun i rb_=>([(4,pV rb_),(14,.agg #[iV 0,iV 0,uV 0])]:Fr)) (fun i rb_ K=>K= [Cl rb_ [iV 0,iV 0,uV 0] 39]) (fun i K=>K= []) (fun c _ K=>False) call296 (Qs z b ar yc rq n m zz yy q mq bt ba cp fi tb wd qo lk f) rfl B ?_ ?_ ?_ ?_
 ·
  intro i_ hi_;exact absurd hi_ (Nat.not_lt_zero _)
 · intro i_ hi_;exact absurd hi_ (Nat.not_lt_zero _)
 ·
  rintro D23 O K_ ⟨rfl⟩ C
  have D:sat g _ (pt D23 (Obj.deferred (some []))::_):=C
  refine g0<|dw (AE [0,1,2,3,4,5,6,7,8,9,10,11] (Tr.an 12 (AE [13,14,15,16,17] Tr.nil))) D fun _ d=> ?_
  have F:=d.f.f.t10
  refine go [rd 6 0 4 0 1 d,rd 6 3 2 13 1 d,rd 6 4 4 0 1 d,rd 6 7 2 14 1 d,rd 6 8 4 0 1 d,rd 6 11 2 3 10 d]<|cG call217 (lI tb 256 wd S W (n:Int) (m:Int) zz yy (q:Int) mq bt ba cp fi hd om om om om om) F ?_
  rintro v K _ (⟨t,u,rfl,rfl⟩) G
  have H:=MG G
  refine⟨kd [],?_⟩
  refine g0<|DS 39<|g0<|up<|g0<|dw (AE [0,1,2,3,4] (Tr.an 5 (Tr.an 6 Tr.nil))) H fun _ k=> ?_
  have I:=k.e.t11
  refine go [rd 12 0 7 0 1 k,rd 12 3 5 15 1 k,rd 12 4 7 0 1 k]<|FN call220 (K7 b ar yc rq n m zz yy q mq bt ba cp fi tb wd qo lk S) I fun _ l=>⟨kd [rd 0 3 0 15 1 l,rd 0 0 7 0 1 l],?_⟩
  refine BZ call219 (K5 qo mq ((S.R.length:Int)-(((AT S.R 3).length:Nat):Int)) om om) l.h.t11 fun _ J=>⟨kd [],?_⟩
  refine g0 ?_
  refine LM (.tuple #[.slice t 0 u,iV 0]) J.e.t11 (fun _ _=> []) (fun _ L=> ?_) [] []
  exact⟨_,_,rfl,⟨t,u,rfl,rfl⟩,L.e.i.c.f.f.h.x.t11.j.x.x.x.x.x.x.x.t8⟩
 intro _ _ _ _ _ _ hf_;exact hf_.elim
theorem jK(b ar yc rq n m:Nat)(zz yy:Int)(q:Nat)(mq bt ba cp fi:Int)(tb wd qo lk dk s:Nat)(gn:Int)(S:Ts)(W:Wst)(tz:Int)(E:E3)(hd:Bo S W.now bt= [])(_:0≤bt-1)(_:0≤ -bt+64)(_:0≤ba-1)(_:0≤cp-ba)(_:0≤ -cp+1048576)(_:0≤mq-1)(_:0≤(S.R.length:Int)-(((AT S.R 3).length:Nat):Int)):HT prog 143 [pV b] [AU b ar yc rq n m zz yy q mq bt ba cp fi tb wd qo lk,D2 rq q dk s gn,TW tb 256 S,Wd wd W,Cl qo [iV mq,pO] 191,Bj lk tz E] (fun v K=> ∃p:Option Addr,∃c:Nat,v= .tuple #[.slice p 0 c,iV 0]∧K= [AU b ar yc rq n m zz yy q mq bt ba cp fi tb wd qo lk,D2 rq q dk s gn,TW tb 256 S,Wd wd W,Cl qo [iV mq,pO] 191,Bj lk tz E,Sl 50 6 p 0 c (fl DM [])]):=by
 refine AC func143 ntmps143 fun g w0 R h0=>g0<|nP 55 [pV b] h0 (fun O _ o=> ?_)
 have z:=o.a.t8
 refine go [rd 1 0 0 0 1 o]<|AF call23 (Ae b ar yc rq n m zz yy q mq bt ba cp fi tb wd qo lk) z fun _ t=>go [rd 3 0 1 0 1 t]<|cP call216 (Ev b) t ?_
 rintro v K _ (⟨A,rfl,rfl⟩) B
 have C:=(B3 B).c.b.b.t9
 refine g0 ?_
 refine Rr (N:=0) (fun i rb_=>([(4,pV rb_),(14,.agg #[iV 0,iV 0,uV 0])]:Fr)) (fun i rb_ K=>K= [Cl rb_ [iV 0,iV 0,uV 0] 39]) (fun i K=>K= []) (fun c _ K=>False) call296 (aC A b ar yc rq n m zz yy q mq bt ba cp fi tb wd qo lk dk s gn) rfl C ?_ ?_ ?_ ?_
 ·
  intro i_ hi_;exact absurd hi_ (Nat.not_lt_zero _)
 · intro i_ hi_;exact absurd hi_ (Nat.not_lt_zero _)
 ·
  rintro D23 P K_ ⟨rfl⟩ D
  have F:sat g _ (pt D23 (Obj.deferred (some []))::_):=D
  refine g0<|dw (AE [0,1,2,3,4,5,6,7,8,9,10,11] (Tr.an 12 (AE [13,14,15,16,17] Tr.nil))) F fun _ d=> ?_
  have G:=d.f.f.t10
  refine go [rd 6 0 4 0 1 d,rd 6 3 2 13 1 d,rd 6 4 4 0 1 d,rd 6 7 2 14 1 d,rd 6 8 4 0 1 d,rd 6 11 2 3 10 d]<|cG call217 (lI tb 256 wd S W (n:Int) (m:Int) zz yy (q:Int) mq bt ba cp fi hd om om om om om) G ?_
  rintro v K _ (⟨u,y,rfl,rfl⟩) H
  have I:=MG H
  refine⟨kd [],?_⟩
  refine g0<|DS 39<|g0<|up<|g0<|dw (AE [0,1,2,3,4] (Tr.an 5 (Tr.an 6 Tr.nil))) I fun _ k=> ?_
  have J:=k.e.t11
  refine go [rd 12 0 7 0 1 k,rd 12 3 5 15 1 k,rd 12 4 7 0 1 k]<|FN call220 (K7 b ar yc rq n m zz yy q mq bt ba cp fi tb wd qo lk S) J fun _ l=>⟨kd [rd 0 3 0 15 1 l,rd 0 0 7 0 1 l],?_⟩
  refine BZ call219 (K5 qo mq ((S.R.length:Int)-(((AT S.R 3).length:Nat):Int)) om om) l.h.t11 fun _ L=>⟨kd [],?_⟩
  refine g0 ?_
  refine LM (.tuple #[.slice u 0 y,iV 0]) L.e.t11 (fun _ _=> []) (fun _ M=> ?_) [] []
  exact⟨_,_,rfl,⟨u,y,rfl,rfl⟩,M.e.i.c.f.f.h.x.t11.j.x.x.x.x.x.x.x.t8⟩
 intro _ _ _ _ _ _ hf_;exact hf_.elim
theorem jL(b ar yc rq n m:Nat)(zz yy:Int)(q:Nat)(mq bt ba cp fi:Int)(tb wd qo lk:Nat)(f:Int)(S:Ts)(W:Wst)(tz:Int)(E:E3)(S2:Ts)(W2:Wst)(E2:E3)(nz oz og wy:Int)(L:List UInt8)(hd:Bo S W.now bt= [nz])(hr:FK (⟨bt,ba,cp⟩:Cf) W.now (S,W) [nz])(hp:EX (⟨bt,ba,cp⟩:Cf) W.now (S,W) [nz]=(S2,W2))(ha:D4 (⟨bt,ba,cp⟩:Cf) W.now (S,W) [nz]= [(⟨0,(1,oz,og),wy,1⟩:At)])(hG:Aa E (1,oz,og)=some (L, -1,0,0,2))(hS:Au E (1,oz,og) (L,tz,0,wy,3)=E2)(_:0≤bt-1)(_:0≤ -bt+64)(_:0≤ba-1)(_:0≤cp-ba)(_:0≤ -cp+1048576)(_:0≤mq-1)(_:0≤oz)(_:0≤ -oz+63)(_:0≤og-1)(_:0≤ -og+4294967295)(_:0≤wy-1)(_:0≤ -wy+3)(_:0≤tz)(_:0≤ -tz+9999)(_:0≤(S2.R.length:Int)-(((AT S2.R 3).length:Nat):Int)):HT prog 143 [pV b] [AU b ar yc rq n m zz yy q mq bt ba cp fi tb wd qo lk,Bl rq q f,TW tb 256 S,Wd wd W,Cl qo [iV mq,pO] 191,Bj lk tz E] (fun v K=> ∃p:Option Addr,∃c:Nat,v= .tuple #[.slice p 1 c,iV 0]∧K= [AU b ar yc rq n m zz yy q mq bt ba cp fi tb wd qo lk,Bl rq q f,TW tb 256 S2,Wd wd W2,Cl qo [iV mq,pO] 191,Bj lk (tz+1) E2,Sl 50 6 p 1 c (fl DM [(⟨0,(1,oz,og),wy,1⟩:At)])]):=by
 refine AC func143 ntmps143 fun g w0 R h0=>g0<|nP 55 [pV b] h0 (fun ab _ C=> ?_)
 have G:=C.a.t8
 refine go [rd 1 0 0 0 1 C]<|AF call23 (Ae b ar yc rq n m zz yy q mq bt ba cp fi tb wd qo lk) G fun _ D=>go [rd 3 0 1 0 1 D]<|cP call216 (Ev b) D ?_
 rintro v K _ (⟨H,rfl,rfl⟩) I
 have J:=(B3 I).c.b.b.t9
 refine g0 ?_
 refine Rr (N:=0) (fun i rb_=>([(4,pV rb_),(14,.agg #[iV 0,iV 0,uV 0])]:Fr)) (fun i rb_ K=>K= [Cl rb_ [iV 0,iV 0,uV 0] 39]) (fun i K=>K= []) (fun c _ K=>False) call296 (Qs H b ar yc rq n m zz yy q mq bt ba cp fi tb wd qo lk f) rfl J ?_ ?_ ?_ ?_
 ·
  intro i_ hi_;exact absurd hi_ (Nat.not_lt_zero _)
 · intro i_ hi_;exact absurd hi_ (Nat.not_lt_zero _)
 ·
  rintro D23 ac K_ ⟨rfl⟩ M
  have O:sat g _ (pt D23 (Obj.deferred (some []))::_):=M
  refine g0<|dw (AE [0,1,2,3,4,5,6,7,8,9,10,11] (Tr.an 12 (AE [13,14,15,16,17] Tr.nil))) O fun _ l=> ?_
  have P:=l.f.f.t10
  refine go [rd 6 0 4 0 1 l,rd 6 3 2 13 1 l,rd 6 4 4 0 1 l,rd 6 7 2 14 1 l,rd 6 8 4 0 1 l,rd 6 11 2 3 10 l]<|cG call217 (lJ tb 256 wd S W (n:Int) (m:Int) zz yy (q:Int) mq bt ba cp fi nz oz og wy S2 W2 hd hr hp ha om om om om om) P ?_
  rintro v K _ (⟨y,z,rfl,rfl⟩) Q
  have F:=MG Q
  refine⟨kd [],?_⟩
  refine go [.v 7 1 (oJ .i64 (1:Int) 1)]<|DS 39 ?_
  obtain⟨A,o⟩:=Av (j:=2) F rfl om
  refine go [.s 9 0]<|AS (pV A) (Ft (Ot 34) (Ot 36) y A 0 0 1 z underlying44 6 0 o 0) ?_
  have d:=F.b.t11
  have ad:=Ca BW dc d
  refine go [.r 9 1 A 0 [iV 0,iV 1,iV oz,uV og,iV wy,iV 1] ⟨CM 0 d rfl o BW 0 (iV 0) (show ([(⟨0,(1,oz,og),wy,1⟩:At)]:List At)[0]? =some (⟨0,(1,oz,og),wy,1⟩:At) from rfl) 0,CM 0 d rfl o BW 1 (iV 1) (show ([(⟨0,(1,oz,og),wy,1⟩:At)]:List At)[0]? =some (⟨0,(1,oz,og),wy,1⟩:At) from rfl) 1,CM 0 d rfl o BW 2 (iV oz) (show ([(⟨0,(1,oz,og),wy,1⟩:At)]:List At)[0]? =some (⟨0,(1,oz,og),wy,1⟩:At) from rfl) 2,CM 0 d rfl o BW 3 (uV og) (show ([(⟨0,(1,oz,og),wy,1⟩:At)]:List At)[0]? =some (⟨0,(1,oz,og),wy,1⟩:At) from rfl) 3,CM 0 d rfl o BW 4 (iV wy) (show ([(⟨0,(1,oz,og),wy,1⟩:At)]:List At)[0]? =some (⟨0,(1,oz,og),wy,1⟩:At) from rfl) 4,CM 0 d rfl o BW 5 (iV 1) (show ([(⟨0,(1,oz,og),wy,1⟩:At)]:List At)[0]? =some (⟨0,(1,oz,og),wy,1⟩:At) from rfl) 5,trivial⟩]<|nP 50 [iV 0,iV 0,iV 0,uV 0,iV 0,iV 0] d (fun _ _ T=> ?_)
  refine sA [iV 0,iV 1,iV oz,uV og,iV wy,iV 1] T fun _ U=>g0<|dw (AE [0,1,2,3,4] (Tr.an 5 Tr.nil)) U fun _ t=> ?_
  have V:=t.j.t12
  refine go [rd 10 0 8 0 1 t,rd 10 3 6 16 1 t,rd 10 4 0 0 6 t]<|BZ call218 (lF lk tz E oz og wy L E2 hG hS om om om om om om om om) V fun _ X=>⟨kd [],?_⟩
  refine g0<|Bm<|g0<|up<|g0<|dw (AE [0,1,2,3,4] (Tr.an 5 (Tr.an 6 Tr.nil))) X fun _ u=> ?_
  have Y:=u.c.x.t12
  refine go [rd 12 0 9 0 1 u,rd 12 3 7 15 1 u,rd 12 4 9 0 1 u]<|FN call220 (K7 b ar yc rq n m zz yy q mq bt ba cp fi tb wd qo lk S2) Y fun _ B=>⟨kd [rd 0 3 0 15 1 B,rd 0 0 9 0 1 B],?_⟩
  refine BZ call219 (K5 qo mq ((S2.R.length:Int)-(((AT S2.R 3).length:Nat):Int)) om om) B.j.t12 fun _ Z=>⟨kd [],?_⟩
  refine g0 ?_
  refine LM (.tuple #[.slice y 1 z,iV 0]) Z.x.t12 (fun _ _=> []) (fun _ aa=> ?_) [] []
  exact⟨_,_,rfl,⟨y,z,rfl,rfl⟩,aa.f.e.c.x.f.i.x.t12.k.x.x.x.x.x.x.x.t8⟩
 intro _ _ _ _ _ _ hf_;exact hf_.elim
theorem Uv(b ar yc rq n m:Nat)(zz yy:Int)(q:Nat)(mq bt ba cp fi:Int)(tb wd qo lk:Nat)(S:Ts):HQ 15 [pV b] [AU b ar yc rq n m zz yy q mq bt ba cp fi tb wd qo lk,TW tb 256 S] (.agg #[iV (S.R.length:Int),iV (((AT S.R 1).length:Nat):Int),iV (((AT S.R 2).length:Nat):Int),iV (((AT S.R 3).length:Nat):Int),iV (((AT S.R 4).length:Nat):Int)]) [AU b ar yc rq n m zz yy q mq bt ba cp fi tb wd qo lk,TW tb 256 S]:=by
 refine AC func15 ntmps15 fun g w0 R h0=>g0<|nP 59 [iV 0,iV 0,iV 0,iV 0,iV 0] h0 (fun _ _ j=> ?_)
 have k:=j.a.t4
 refine g0<|AF call23 (Ae b ar yc rq n m zz yy q mq bt ba cp fi tb wd qo lk) k fun _ e=> ?_
 have l:=e.b.t4
 refine go [rd 3 3 0 13 1 e]<|AF call25 (vQ tb 256 S) l fun _ o=>g0<|nP 59 [iV 0,iV 0,iV 0,iV 0,iV 0] o (fun _ _ p=> ?_)
 refine sA [iV (S.R.length:Int),iV (((AT S.R 1).length:Nat):Int),iV (((AT S.R 2).length:Nat):Int),iV (((AT S.R 3).length:Nat):Int),iV (((AT S.R 4).length:Nat):Int)] p fun _ f=> ?_
 have s:=f.c.t5
 refine go [rd 4 0 0 0 5 f]<|sA [iV (S.R.length:Int),iV (((AT S.R 1).length:Nat):Int),iV (((AT S.R 2).length:Nat):Int),iV (((AT S.R 3).length:Nat):Int),iV (((AT S.R 4).length:Nat):Int)] s fun _ i=>g0 ?_
 exact AD _ [rd 0 0 0 0 5 i] i.b.c.t5.d.b.b.t3
end Go.Proofs.YtcgkoffnknpgjaaGreatDoor
