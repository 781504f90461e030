/-
  A map that is being copied, entry by entry. No program in sight.
-/
import Derived.Test.YtehlamblpekmkaaGreatDoorBundle27
import Derived.Test.YtehlamblpekmkaaGreatDoorHq
import Derived.Test.YtehlamblpekmkaaGreatDoorMrg
import Derived.Test.YtehlamblpekmkaaGreatDoorBundle29
import Derived.Test.YtehlamblpekmkaaGreatDoorFdsP
import Derived.Test.YtehlamblpekmkaaGreatDoorCln
import Derived.Test.YtehlamblpekmkaaGreatDoorBundle22
namespace Go.Proofs.YtehlamblpekmkaaGreatDoor
open Tryz
set_option maxHeartbeats 4000000
structure Part (E0 S Ec:Tm):Prop where
 k0:KN E0
 kc:KN Ec
 ks:KN S
 mem: ∀q∈S,gget E0 q.1=some q.2
 has: ∀k:Int,gget Ec k=if k∈S.map (·.1) then none else gget E0 k
theorem gget_mem{E:Tm}(h:KN E){q:Int×Ety}(hq:q∈E):gget E q.1=some q.2:=by
 induction E with
 |nil=>cases hq
 |cons p E ih=>
  obtain⟨a,v⟩:=p
  have h':(a::E.map (·.1)).Nodup:=h
  obtain⟨h1,h2⟩:=List.nodup_cons.1 h'
  simp only[gget]
  rcases List.mem_cons.1 hq with rfl |h3
  · rw[if_pos rfl]
  · have hne:a≠q.1:=fun he=>h1 (he▸List.mem_map_of_mem h3)
    rw[if_neg (Ne.symm hne)]
    exact ih h2 h3
theorem part_start{E0 E:Tm}(h:Meq E0 E):Part E0 E0 []:=by
 refine⟨h.1,List.nodup_nil,h.1,fun q hq=>gget_mem h.1 hq,fun k=> ?_⟩
 split
 · rfl
 · rename_i hk
   rw[gget_none.2 hk]
   rfl
theorem part_go{E0 S Ec:Tm}(h:Part E0 S Ec){i:Nat}{q:Int×Ety}(hq:S[i]? =some q):Part E0 (S.eraseIdx i) (gset Ec q.1 q.2):=by
 have hkn:(S.map (·.1)).Nodup:=h.ks
 have hi:=(List.getElem?_eq_some_iff.1 hq).1
 have hki:(S.map (·.1))[i]? =some q.1:=by rw[List.getElem?_map,hq];rfl
 have hkil:i<(S.map (·.1)).length:=by rw[List.length_map];exact hi
 have hmk:(S.eraseIdx i).map (·.1)=(S.map (·.1)).eraseIdx i:=erase_map _ _ _
 refine⟨h.k0,kn_set h.kc,?_,fun p hp=>h.mem p (List.eraseIdx_subset hp),fun k=> ?_⟩
 · unfold KN
   rw[hmk]
   exact List.Nodup.sublist (List.eraseIdx_sublist _ _) hkn
 · rw[gget_set,hmk]
   have hik:(S.map (·.1))[i]=q.1:=(List.getElem?_eq_some_iff.1 hki).2
   split
   · rename_i hk
     subst hk
     have hno:q.1∉(S.map (·.1)).eraseIdx i:=by
      rw[←hik]
      intro h2
      obtain⟨j,hj,hji,hjk⟩:=List.mem_eraseIdx_iff_getElem.1 h2
      exact hji ((List.getElem_inj hkn).1 hjk)
     rw[if_neg hno]
     exact(h.mem q (List.mem_of_getElem? hq)).symm
   · rename_i hk
     rw[h.has]
     have hiff:k∈(S.map (·.1)).eraseIdx i↔k∈S.map (·.1):=by
      constructor
      · exact fun h2=>List.eraseIdx_subset h2
      · intro h2
        obtain⟨j,hj,hjk⟩:=List.getElem_of_mem h2
        exact List.mem_eraseIdx_iff_getElem.2 ⟨j,hj,fun he=>hk (by subst he;rw[←hjk,hik]),hjk⟩
     by_cases h3:k∈S.map (·.1)
     · rw[if_pos h3,if_pos (hiff.2 h3)]
     · rw[if_neg h3,if_neg fun h4=>h3 (hiff.1 h4)]
theorem part_end{E0 E Ec:Tm}(h:Part E0 [] Ec)(hM:Meq E0 E):Meq Ec E:=⟨h.kc,hM.2.1,fun k=>by
 rw[h.has,if_neg (by simp),hM.2.2]⟩
def dropK(S:Ts)(v:Int)(k:Nat):Ts:=((descs S.E v).take k).foldl dropS S
theorem dropK_go{S:Ts}{v:Int}{k:Nat}{x:Ky}(hx:(descs S.E v)[k]? =some x):dropS (dropK S v k) x=dropK S v (k+1):=by
 unfold dropK
 rw[List.take_add_one,hx,List.foldl_append]
 rfl
theorem dropK_all(S:Ts)(v:Int){k:Nat}(hk:k=(descs S.E v).length):dropK S v k=expS S v:=by
 subst hk
 unfold dropK expS
 rw[List.take_length]
theorem drops_get{y:Int}: ∀ {D:List Ky} {S:Ts},(∀d∈D,d.2.1≠y)→gget (D.foldl dropS S).E y=gget S.E y
 | [],_,_=>rfl
 |d::D,S,h=>by
  have h1:=drops_get (D:=D) (S:=dropS S d) (y:=y) fun d2 hd2=>h d2 (List.mem_cons_of_mem _ hd2)
  rw[List.foldl_cons,h1]
  unfold dropS
  simp only
  rw[gget_del (Ne.symm (h d List.mem_cons_self))]
theorem drops_R: ∀ {D:List Ky} {S:Ts},(D.foldl dropS S).R=S.R
 | [],_=>rfl
 |d::D,S=>by rw[List.foldl_cons,drops_R];rfl
theorem descs_at{n:Nat}{S:Ts}(W:Wf n S){v:Int}{x:Ky}(hx:x∈descs S.E v): ∃e,gget S.E x.2.1=some e∧e.d=x∧e.num=v:=by
 obtain⟨e,h1,h2,h3⟩:=mem_descs.1 hx
 exact⟨e,by rw[←h3];exact wf_mem W h1,h3,h2⟩
theorem dropK_at{n:Nat}{S:Ts}(W:Wf n S){v:Int}{k:Nat}{x:Ky}(hx:(descs S.E v)[k]? =some x): ∃e,gget (dropK S v k).E x.2.1=some e∧e.d=x:=by
 obtain⟨e,h1,h2,_⟩:=descs_at W (List.mem_of_getElem? hx)
 refine⟨e,?_,h2⟩
 unfold dropK
 rw[drops_get,h1]
 intro d hd
 obtain⟨j,hj⟩:=List.getElem?_of_mem hd
 have hjk:j<k:=by
  have:=(List.getElem?_eq_some_iff.1 hj).1
  rw[List.length_take] at this
  omega
 rw[List.getElem?_take_of_lt hjk] at hj
 have hp:=List.pairwise_iff_getElem.1 (descs_lt W v) j k (by rw[List.length_map];exact(List.getElem?_eq_some_iff.1 hj).1) (by rw[List.length_map];exact(List.getElem?_eq_some_iff.1 hx).1) hjk
 rw[List.getElem_map,List.getElem_map,(List.getElem?_eq_some_iff.1 hj).2,(List.getElem?_eq_some_iff.1 hx).2] at hp
 omega
theorem gen_ok{n:Nat}{S:Ts}(W:Wf n S){e:Ety}{k:Int}(h:gget S.E k=some e):0≤e.d.2.2∧e.d.2.2≤4294967295:=by
 obtain⟨q,_,_,h2⟩:=wf_slot W h
 have:=W.ok _ (List.mem_of_getElem? h2)
 simp only at this
 omega
theorem desc_ok{n:Nat}{S:Ts}(W:Wf n S){v:Int}{x:Ky}(hx:x∈descs S.E v):0≤x.2.2∧x.2.2≤4294967295:=by
 obtain⟨e,h1,h2,_⟩:=descs_at W hx
 have:=gen_ok W h1
 rw[h2] at this
 exact this
theorem numsT_go{R:List Rs}{st:Int}{k:Nat}{r:Rs}(hr:R[k]? =some r)(h:r.st=st):numsT R st k++ [(k:Int)+1]=numsT R st (k+1):=by
 unfold numsT
 rw[List.range_succ,List.filter_append,List.map_append]
 simp[hr,h]
theorem numsT_no{R:List Rs}{st:Int}{k:Nat}{r:Rs}(hr:R[k]? =some r)(h:r.st≠st):numsT R st k=numsT R st (k+1):=by
 unfold numsT
 rw[List.range_succ,List.filter_append,List.map_append]
 simp[hr,h]
theorem descs_len(E:Tm)(v:Int):(descs E v).length≤256:=by
 have h1:=(descs_sub E v).length_le
 rw[List.length_map] at h1
 have h2:=cntE_le E 256
 unfold allE at h1
 omega
theorem set_bad{S:Ts}{v:Int}{r:Rs}{e:Int}(h:setE S v r=e)(he:e≠0):setS S v r=S:=by
 unfold setS
 rw[if_neg om]
theorem terase_len{α:Type}{S:List α}{i:Nat}{q:α}(h:S[i]? =some q):(S.eraseIdx i).length+1=S.length:=by
 have:=(List.getElem?_eq_some_iff.1 h).1
 rw[List.length_eraseIdx,if_pos this]
 omega
theorem texp_w(b n:Nat)(S:Ts)(vn:Int):HT prog 53 [pV b,iV vn] [TW b n S] (fun v K=> ∃(p:Option Addr) (c:Nat),v= .tuple #[.slice p ((descs S.E vn).length) c,iV (nE S vn)]∧K= [TW b n (expS S vn),Sl 144 3 p ((descs S.E vn).length) c (fl eO (descs S.E vn))]):=by
 refine hiS func53 ntmps53 fun g w0 R h0=> ?_
 have hW_:=(wi_out h0).1
 have hdl_:=descs_len S.E vn
 refine g0<|cP call123 (tdescs_w b n S vn) h0 ?_
 rintro v K _ (⟨p10,c11,rfl,rfl⟩) h13
 have h14:=ap2 h13
 refine g0 ?_
 have h15:=h14.a.t3
 have hl16:=fl_n eO_ok dc h15
 refine lpS (fun mz_ a w=> ∃k:Nat,∃lr:Fr,mz_=((descs S.E vn).length)-k∧(k≤(descs S.E vn).length)∧a=mk 28 (([(0,pV b),(6,.slice p10 ((descs S.E vn).length) c11),(7,iV (nE S vn)),(16,.slice p10 ((descs S.E vn).length) c11),(17,iV (((descs S.E vn).length:Nat):Int)),(18,iV (k:Int))]:Fr)++lr)∧sat g w [TW b n (dropK S vn k),Sl 144 3 p10 ((descs S.E vn).length) c11 (fl eO (descs S.E vn)),R]) ((descs S.E vn).length-0) ⟨0,_,rfl,(Nat.zero_le _),(lvF [.k 0 (pV b),.k 6 (.slice p10 ((descs S.E vn).length) c11),.k 7 (iV (nE S vn)),.k 16 (.slice p10 ((descs S.E vn).length) c11),.k 17 (iV (((descs S.E vn).length:Nat):Int)),.o 18 (oJ .i64 0 (0:Int))]),h15.a.t3⟩ ?_
 rintro m19 a20 w21 ⟨k,lr18,rfl,hk,rfl,h22⟩
 refine ga<|go [.s 3 0] ?_
 by_cases c23:(k:Int)<(((descs S.E vn).length:Nat):Int)
 ·
  obtain⟨b24,hp25⟩:=sl_ptr0 (j:=1) h22 rfl om
  refine go [.v 3 0 (oT _ c23),.s 4 0]<|lwP (.pointer (some ⟨b24,k*3,none⟩)) (liP (Ot 16) (Ot 18) p10 b24 0 (k:Int) ((descs S.E vn).length) c11 underlying120 3 k hp25 (k*3)) ?_
  obtain⟨x26,hx27⟩: ∃x,(descs S.E vn)[k]? =some x:=⟨_,List.getElem?_eq_getElem (by rw[hl16];omega)⟩
  obtain⟨e28,he29,hd30⟩:=dropK_at hW_ hx27
  have hb31:=desc_ok hW_ (List.mem_of_getElem? hx27)
  refine go [.r 4 1 b24 (k*3) [iV x26.1,iV x26.2.1,uV x26.2.2] ⟨gvc 1 h22 rfl hp25 eO_ok 0 (iV x26.1) hx27 (k*3),gvc 1 h22 rfl hp25 eO_ok 1 (iV x26.2.1) hx27 (k*3+1),gvc 1 h22 rfl hp25 eO_ok 2 (uV x26.2.2) hx27 (k*3+2),trivial⟩]<|nP 144 [iV 0,iV 0,uV 0] h22 (fun r32 _ h34=> ?_)
  refine sA [iV x26.1,iV x26.2.1,uV x26.2.2] h34 fun _ h36=> ?_
  have h37:=h36.a.t4
  refine go [rd 5 1 0 0 3 h36]<|cl1 call124 (tdrop_w b n (dropK S vn k) x26.1 x26.2.1 x26.2.2 om om e28 he29 hd30) h37 fun w38 h39=>go [.v 6 0 (oIr ((k:Int)+1))] ?_
  refine enL ?_
  have h40:sat g w38 [TW b n (dropK S vn (k+1)),Cl r32 [iV x26.1,iV x26.2.1,uV x26.2.2] 144,Sl 144 3 p10 ((descs S.E vn).length) c11 (fl eO (descs S.E vn)),R]:=(show (dropS (dropK S vn k) x26)=dropK S vn (k+1) from dropK_go hx27)▸h39
  have h42:=tk3 h40.c.c.b.t4
  change ∃n',n'<_∧_
  refine⟨((descs S.E vn).length-(k+1)),by omega,(k+1),_,rfl,om,(lvF [.k 0 (pV b),.k 6 (.slice p10 ((descs S.E vn).length) c11),.k 7 (iV (nE S vn)),.k 16 (.slice p10 ((descs S.E vn).length) c11),.k 17 (iV (((descs S.E vn).length:Nat):Int)),.o 18 (oJ .i64 ((k:Int)+1) (((k+1):Nat):Int))]),h42⟩
 refine go [.v 3 0 (oF _ c23)]<|up<|g0 ?_
 have h43:sat g w21 [TW b n (expS S vn),Sl 144 3 p10 ((descs S.E vn).length) c11 (fl eO (descs S.E vn)),R]:=(show (dropK S vn k)=expS S vn from dropK_all S vn om)▸h22
 exact en (.tuple #[.slice p10 ((descs S.E vn).length) c11,iV (nE S vn)]) [] ⟨_,_,rfl,⟨p10,c11,rfl,rfl⟩,h43⟩
theorem tnums_ht(b n:Nat)(A:List Sl2)(E:Tm)(RL:List Rs)(vn:Int):HT prog 51 [pV b,iV vn] [Tab b n A E RL] (fun v K=> ∃(p:Option Addr) (c:Nat),v= .slice p ((nums RL vn).length) c∧K= [Tab b n A E RL,Sl 3 1 p ((nums RL vn).length) c (fl eI (nums RL vn))]):=by
 refine hiS func51 ntmps51 fun g w0 R h0=>g0<|cl1 call121 (tvalid_ht b n A E RL) h0 fun w10 h11=> ?_
 obtain⟨s12,m13,p14,c15,E16,hM17,h18⟩:=tab_open h11
 have hRl_:=hM17.2
 refine go [rd 4 3 0 2 1 h18] ?_
 have h19:=h18.c.t5
 have hl20:=fl_n eRs_ok dc h19
 have h21:sat g _ (Sl 3 1 none 0 0 (fl eI [])::_):=sl_nil 3 1 h19
 refine lpS (fun mz_ a w=> ∃k:Nat,∃p2:Option Addr,∃m2:Nat,∃c2:Nat,∃lr:Fr,mz_=RL.length-k∧(k≤RL.length)∧(m2≤k)∧a=mk 32 (([(1,iV vn),(5,.slice p2 m2 c2),(14,.slice p14 RL.length c15),(15,iV (RL.length:Int)),(16,iV (k:Int))]:Fr)++lr)∧sat g w [Sl 3 1 p2 m2 c2 (fl eI (numsT RL vn k)),Sl 82 8 p14 RL.length c15 (fl eRs RL),Cl b [pV s12,.map (some m13),.slice p14 RL.length c15] 35,Tb s12 n A,Gp kI vE m13 E16,R]) (RL.length-0) ⟨0,none,0,0,_,rfl,(Nat.zero_le _),(Nat.le_refl _),(lvF [.k 1 (iV vn),.k 5 (.slice none 0 0),.k 14 (.slice p14 RL.length c15),.k 15 (iV (RL.length:Int)),.o 16 (oJ .i64 0 (0:Int))]),h21⟩ ?_
 rintro m23 a24 w25 ⟨k,p2,m2,c2,lr22,rfl,hk,hm2,rfl,h26⟩
 refine ga<|go [.s 5 0] ?_
 by_cases c27:(k:Int)<(RL.length:Int)
 ·
  obtain⟨b28,hp29⟩:=sl_ptr0 (j:=1) h26 rfl om
  refine go [.v 5 0 (oT _ c27),.s 6 1]<|lwP (.pointer (some ⟨b28,k*8,none⟩)) (liP (Ot 14) (Ot 16) p14 b28 0 (k:Int) RL.length c15 underlying33 8 k hp29 (k*8)) ?_
  obtain⟨x30,hx31⟩: ∃x,RL[k]? =some x:=⟨_,List.getElem?_eq_getElem (by rw[hl20];omega)⟩
  refine go [.r 6 2 b28 (k*8) [iV x30.out.1,iV x30.out.2.1,uV x30.out.2.2,iV x30.st,iV x30.why,iV x30.tr,iV x30.nx,.string (St x30.tag)] ⟨gvc 1 h26 rfl hp29 eRs_ok 0 (iV x30.out.1) hx31 (k*8),gvc 1 h26 rfl hp29 eRs_ok 1 (iV x30.out.2.1) hx31 (k*8+1),gvc 1 h26 rfl hp29 eRs_ok 2 (uV x30.out.2.2) hx31 (k*8+2),gvc 1 h26 rfl hp29 eRs_ok 3 (iV x30.st) hx31 (k*8+3),gvc 1 h26 rfl hp29 eRs_ok 4 (iV x30.why) hx31 (k*8+4),gvc 1 h26 rfl hp29 eRs_ok 5 (iV x30.tr) hx31 (k*8+5),gvc 1 h26 rfl hp29 eRs_ok 6 (iV x30.nx) hx31 (k*8+6),gvc 1 h26 rfl hp29 eRs_ok 7 (.string (St x30.tag)) hx31 (k*8+7),trivial⟩]<|nP 82 [iV 0,iV 0,uV 0,iV 0,iV 0,iV 0,iV 0,.string (St [])] h26 (fun r32 _ h34=> ?_)
  refine g0<|sA [iV x30.out.1,iV x30.out.2.1,uV x30.out.2.2,iV x30.st,iV x30.why,iV x30.tr,iV x30.nx,.string (St x30.tag)] h34 fun w35 h36=>go [rd 7 1 0 3 1 h36,.s 7 3] ?_
  by_cases c37:x30.st=vn
  ·
   refine go [.v 7 3 (qeT _ _ c37),.v 8 2 (oIr ((k:Int)+1))]<|nG (fun q_=> .slice (some ⟨q_,0,none⟩) 1 1) 3 [iV ((k:Int)+1)] h36 (fun r38 _ h40=>⟨kd [],?_⟩)
   have h41:=h40.b.t8
   refine actG ?_
   refine aA 29 1 (Ot 25) (Ot 28) (iV 0) p2 m2 c2 1 1 (⟨r38,0,none⟩) 8 underlying37 h41 (fl eI [(k:Int)+1]) rfl (cell1 h41 rfl) (fl_one eI_ok _) (m2+1) ?_
   intro p42 cap43 w44 h45
   have h46:sat g _ (Sl 3 1 p42 (m2+1) cap43 (fl eI ((numsT RL vn k)++ [(k:Int)+1]))::_):=sJ h45
   obtain⟨hn47,hn48⟩:=sl_le h46
   refine nxA<|go [.v 9 0 (oIr ((k:Int)+1))] ?_
   refine enL ?_
   have h49:sat g _ (Sl 3 1 p42 (m2+1) cap43 (fl eI (numsT RL vn (k+1)))::_):=sat_imp h46 (fun _ hh_=>by rw[show (((numsT RL vn k)++ [(k:Int)+1]):List Int)=(numsT RL vn (k+1)) from numsT_go hx31 om] at hh_;exact hh_)
   have h51:=tk6 h49.x.x.x.x.x.e.t8
   change ∃n',n'<_∧_
   refine⟨(RL.length-(k+1)),by omega,(k+1),p42,m2+1,cap43,_,rfl,om,om,(lvF [.k 1 (iV vn),.k 5 (.slice p42 (m2+1) cap43),.k 14 (.slice p14 RL.length c15),.k 15 (iV (RL.length:Int)),.o 16 (oJ .i64 ((k:Int)+1) (((k+1):Nat):Int))]),h51⟩
  refine go [.v 7 3 (qeF _ _ c37),.v 9 0 (oIr ((k:Int)+1))] ?_
  refine enL ?_
  have h53:sat g _ (Sl 3 1 p2 m2 c2 (fl eI (numsT RL vn (k+1)))::_):=sat_imp h36.a.t7 (fun _ hh_=>by rw[show ((numsT RL vn k):List Int)=(numsT RL vn (k+1)) from numsT_no hx31 om] at hh_;exact hh_)
  have h55:=tk6 h53.f.f.f.f.f.e.t7
  change ∃n',n'<_∧_
  refine⟨(RL.length-(k+1)),by omega,(k+1),p2,m2,c2,_,rfl,om,om,(lvF [.k 1 (iV vn),.k 5 (.slice p2 m2 c2),.k 14 (.slice p14 RL.length c15),.k 15 (iV (RL.length:Int)),.o 16 (oJ .i64 ((k:Int)+1) (((k+1):Nat):Int))]),h55⟩
 refine go [.v 5 0 (oF _ c27)]<|up<|g0 ?_
 have h56:sat g _ (Sl 3 1 p2 m2 c2 (fl eI (nums RL vn))::_):=sat_imp h26 (fun _ hh_=>by rw[show ((numsT RL vn k):List Int)=(nums RL vn) from (by rw[show k=RL.length from by omega];rfl)] at hh_;exact hh_)
 have hl57:=fl_n eI_ok dc h56
 have h58:sat g _ (Sl 3 1 p2 ((nums RL vn).length) c2 (fl eI (nums RL vn))::_):=sat_imp h56 (fun _ hh_=>by rw[hl57];exact hh_)
 have h60:sat g _ (Tab b n A E RL::_):=tab_close hM17.1 om (by first|rfl |omega) h58.a.d.d.d.t6
 exact en (.slice p2 m2 c2) [] ⟨_,_,rfl,⟨p2,c2,by rw[hl57],rfl⟩,h60⟩
theorem rclone_nil(c:Nat)(X:Assn):HT prog 183 [.slice none 0 c] [X] (fun v K=> ∃(p:Option Addr) (c:Nat),v= .slice p 0 c∧K= [Sl 82 8 p 0 c (fl eRs []),X]):=by
 refine hiS func183 ntmps183 fun g w0 R h0=>g0 ?_
 have h10:sat g _ (Sl 82 8 none 0 0 (fl eRs [])::_):=sl_nil 82 8 h0
 exact en (.slice none 0 0) [] ⟨_,_,rfl,⟨none,0,rfl,rfl⟩,h10⟩
theorem rclone_some(a:Addr)(p:Option Addr)(hp:p=some a)(n c:Nat)(L:List Rs)(X:Assn)(hX:Gv X p n (fl eRs L))(hL:L.length=n)(hn:n≤1000000):HT prog 183 [.slice p n c] [X] (fun v K=> ∃(p:Option Addr) (c:Nat),v= .slice p n c∧K= [Sl 82 8 p n c (fl eRs L),X]):=by
 refine hiS func183 ntmps183 fun g w0 R h0=>go [.s 1 1]<|lwP (.bool false) (law_sliceSome (x:=Ot 3) (y:=(Operand.const (.slice none 0 0))) (m:=n) (c:=c) kr underlying33 kr hp kr _)<|g0<|nG (fun q_=> .slice (some ⟨q_,0,none⟩) 0 0) 82 [] h0 (fun r10 w11 h12=>⟨kd [],?_⟩)
 have h13:sat g _ (Sl 82 8 (some ⟨r10,0,none⟩) 0 0 (fl eRs [])::_):=sl_of_cl h12 rfl om
 refine g0 ?_
 refine actG ?_
 refine aG 7 8 (Ot 5) (Ot 6) (.agg #[iV 0,iV 0,uV 0,iV 0,iV 0,iV 0,iV 0,.string (St [])]) (some ⟨r10,0,none⟩) p 0 0 n c 72 underlying33 h13 1 rfl (fl eRs L) hX (by rw[fl_len eRs_ok,hL]) (fl_one eRs_ok _) n ?_
 intro p14 cap15 w16 h17
 have h18:sat g _ (Sl 82 8 p14 n cap15 (fl eRs L)::_):=sI h17
 obtain⟨hn19,hn20⟩:=sl_le h18
 refine nxA<|g0 ?_
 exact en (.slice p14 n cap15) [] ⟨_,_,rfl,⟨p14,cap15,rfl,rfl⟩,h18⟩
theorem rclone_ht(p:Option Addr)(n c:Nat)(L:List Rs)(X:Assn)(hX:Gv X p n (fl eRs L))(hL:L.length=n)(hn:n≤1000000):HT prog 183 [Value.slice p n c] [X] (fun v K=> ∃(p:Option Addr) (c:Nat),v=Value.slice p n c∧K= [Sl 82 8 p n c (fl eRs L),X]):=by
 cases p with
 |none=>
  have hn0:n=0∨0<n:=by omega
  rcases hn0 with hn0|hn0
  · have hl0:L= []:=List.eq_nil_of_length_eq_zero om
    subst hl0
    subst hn0
    exact rclone_nil c X
  · intro g w F hs
    obtain⟨b,off,h1⟩:=gv_ptr (j:=0) hs rfl hX hn0
    cases h1
 |some a=>exact rclone_some a _ rfl n c L X hX hL hn
theorem tcopy_ht(b n:Nat)(A:List Sl2)(E:Tm)(RL:List Rs):HT prog 103 [pV b] [Tab b n A E RL] (fun v K=> ∃b2:Nat,v=pV b2∧K= [Tab b n A E RL,Tab b2 n A E RL]):=by
 refine hiS func103 ntmps103 fun g w0 R h0=>g0<|cl1 call121 (tvalid_ht b n A E RL) h0 fun _ h11=>go [.s 3 100000] ?_
 obtain⟨s12,m13,p14,c15,E16,hM17,h18⟩:=tab_open h11
 have hRl_:=hM17.2
 have h19:=h18.c.t5
 have hl20:=fl_n eRs_ok dc h19
 refine jnS (fun a w=> ∃rb:Nat,∃s2:Nat,∃r2:Nat,∃p2:Option Addr,∃c2:Nat,∃lr:Fr,a=mk 39 (([(0,pV b),(3,pV rb)]:Fr)++lr)∧sat g w [Cl rb [pV s2,.map (some r2),.slice p2 RL.length c2] 35,Tb s2 n A,Gp kI vE r2 [],Sl 82 8 p2 RL.length c2 (fl eRs RL),Cl b [pV s12,.map (some m13),.slice p14 RL.length c15] 35,Tb s12 n A,Gp kI vE m13 E16,Sl 82 8 p14 RL.length c15 (fl eRs RL),R]) ?_ ?_
 ·
  refine g0<|dw (fls [0,1,2,3,6,7,8,9] (Tr.an2 4 (Tr.an2 5 (Tr.an 10 (Tr.fl 11 (Tr.an 12 (Tr.fl 13 Tr.nil)))) 10 (Tr.an 5 (Tr.fl 11 (Tr.an 12 (Tr.fl 13 Tr.nil))))) 5 (Tr.an 4 (Tr.an 10 (Tr.fl 11 (Tr.an 12 (Tr.fl 13 Tr.nil))))))) h19 fun _ h22=>go [rd 3 3 1 0 1 h22,rd 3 9 1 2 1 h22] ?_
  refine br2 ?_ ?_
  ·
   refine cG call182 (scopy_ht s12 n A) h22.b.t5 ?_
   rintro v K _ (⟨b23,rfl,rfl⟩) h26
   have h27:=ap2 h26
   refine⟨kd [rd 0 9 3 2 1 h27],?_⟩
   refine br2 ?_ ?_
   ·
    refine actG ?_
    refine ag_makeMap (t:=32) (d:=14) kI vE kr kr rfl h27 ?_
    intro r28 _ h30
    refine⟨kd [rd 0 9 4 2 1 h30],nxG ?_⟩
    refine cG call183 (rclone_ht p14 RL.length c15 RL (Sl 82 8 p14 RL.length c15 (fl eRs RL)) (gv_sl _ _ _) hl20 om) h30.c.t7 ?_
    rintro v K _ (⟨p31,c32,rfl,rfl⟩) h35
    have h36:=ap2 h35
    refine⟨kd [],?_⟩
    refine g0<|nG (fun q_=>pV q_) 35 [pV b23,.map (some r28),.slice p31 RL.length c32] h36 (fun r37 _ h39=>⟨kd [],?_⟩)
    refine g0 ?_
    refine enL ?_
    exact⟨r37,b23,r28,p31,c32,_,(lvF [.k 0 (pV b),.k 3 (pV r37)]),h39.x.e.x.d.f.x.f.t9⟩
   refine cG call183 (rclone_ht p14 RL.length c15 RL (Sl 82 8 p14 RL.length c15 (fl eRs RL)) (gv_sl _ _ _) hl20 om) h27.b.t6 ?_
   rintro v K _ (⟨p41,c42,rfl,rfl⟩) h45
   have h46:=ap2 h45
   refine⟨kd [],?_⟩
   refine actG ?_
   refine ag_makeMap (t:=32) (d:=14) kI vE kr kr rfl h46 ?_
   intro r47 _ h49
   refine⟨kd [],nxG ?_⟩
   refine g0<|nG (fun q_=>pV q_) 35 [pV b23,.map (some r47),.slice p41 RL.length c42] h49 (fun r50 _ h52=>⟨kd [],?_⟩)
   refine g0 ?_
   refine enL ?_
   exact⟨r50,b23,r47,p41,c42,_,(lvF [.k 0 (pV b),.k 3 (pV r50)]),h52.x.e.x.e.e.x.f.t9⟩
  refine actG ?_
  refine ag_makeMap (t:=32) (d:=14) kI vE kr kr rfl h22 ?_
  intro r54 _ h56
  refine⟨kd [rd 0 9 2 2 1 h56,rd 0 3 2 0 1 h56],nxG ?_⟩
  refine cG call182 (scopy_ht s12 n A) h56.c.t6 ?_
  rintro v K _ (⟨b57,rfl,rfl⟩) h60
  have h61:=ap2 h60
  refine⟨kd [rd 0 9 4 2 1 h61],?_⟩
  refine cG call183 (rclone_ht p14 RL.length c15 RL (Sl 82 8 p14 RL.length c15 (fl eRs RL)) (gv_sl _ _ _) hl20 om) h61.c.t7 ?_
  rintro v K _ (⟨p62,c63,rfl,rfl⟩) h66
  have h67:=ap2 h66
  refine⟨kd [],?_⟩
  refine g0<|nG (fun q_=>pV q_) 35 [pV b57,.map (some r54),.slice p62 RL.length c63] h67 (fun r68 _ h70=>⟨kd [],?_⟩)
  refine g0 ?_
  refine enL ?_
  exact⟨r68,b57,r54,p62,c63,_,(lvF [.k 0 (pV b),.k 3 (pV r68)]),h70.x.d.x.d.x.x.f.t9⟩
 rintro a72 w73 ⟨rb,s2,r2,p2,c2,lr75,rfl,h74⟩
 refine ga ?_
 have h76:=h74.f.t9
 refine go [rd 4 3 4 1 1 h74] ?_
 refine actG ?_
 refine ag_range (t:=32) (d:=26) (x:=Ot 25) kr kr rfl underlying32 kr h76 ?_
 intro r77 _ h79
 refine nxA<|g0 ?_
 refine lpS (fun mz_ a w=> ∃S_:Tm,∃Ec:Tm,∃cu_:Option (Int×Ety),∃lr:Fr,mz_=S_.length∧(Part E16 S_ Ec)∧a=mk 39 (([(3,pV rb),(26,pV r77)]:Fr)++lr)∧sat g w [It kI vE m13 r77 E16 S_ cu_,Gp kI vE r2 Ec,Cl rb [pV s2,.map (some r2),.slice p2 RL.length c2] 35,Tb s2 n A,Sl 82 8 p2 RL.length c2 (fl eRs RL),Cl b [pV s12,.map (some m13),.slice p14 RL.length c15] 35,Tb s12 n A,Sl 82 8 p14 RL.length c15 (fl eRs RL),R]) E16.length ⟨E16,[],none,_,rfl,(part_start hM17.1),(lvF [.k 3 (pV rb),.k 26 (pV r77)]),h79.c.a.t9⟩ ?_
 rintro m82 a83 w84 ⟨S_,Ec,cu_,lr81,rfl,hP_,rfl,h85⟩
 refine ga<|g0 ?_
 refine actG ?_
 refine ag_next (d:=27) (x:=Ot 26) kr kr rfl kr h85 ?_ ?_
 ·
  intro hS86 w87 h88
  refine nxA<|g0<|up<|g0 ?_
  have h94:sat g w87 [Gp kI vE m13 E16,Gp kI vE r2 Ec,Cl rb [pV s2,.map (some r2),.slice p2 RL.length c2] 35,Tb s2 n A,Sl 82 8 p2 RL.length c2 (fl eRs RL),Cl b [pV s12,.map (some m13),.slice p14 RL.length c15] 35,Tb s12 n A,Sl 82 8 p14 RL.length c15 (fl eRs RL),R]:=it_end h88
  have h96:sat g _ (Tab b n A E RL::_):=tab_close hM17.1 om (by first|rfl |omega) h94.x.a.x.x.t9
  have h97:=h96.d.b.d.d.t6
  have h98:sat g _ (Tab rb n A E RL::_):=tab_close (part_end (hS86▸hP_) hM17.1) om (by first|rfl |omega) h97
  exact en (pV rb) [] ⟨_,_,rfl,⟨rb,rfl,rfl⟩,h98.a.t3⟩
 intro ix89 q90 hq91 _ h93
 have hel100:=terase_len hq91
 refine nxA<|g0 ?_
 refine actG ?_
 refine act_law (d:=29) (.tuple #[iV q90.1,.agg #[iV q90.2.d.1,iV q90.2.d.2.1,uV q90.2.d.2.2,iV q90.2.num,iV q90.2.h.1,uV q90.2.h.2]]) kr rfl (law_entry (x:=Ot 26) kr kr h93 (.tuple #[iV q90.1,.agg #[iV q90.2.d.1,iV q90.2.d.2.1,uV q90.2.d.2.2,iV q90.2.num,iV q90.2.h.1,uV q90.2.h.2]]) rfl) ?_
 refine nxA<|g0<|nP 269 [iV 0,iV 0,uV 0,iV 0,iV 0,uV 0] h93 (fun _ _ h103=> ?_)
 refine g0<|sA [iV q90.2.d.1,iV q90.2.d.2.1,uV q90.2.d.2.2,iV q90.2.num,iV q90.2.h.1,uV q90.2.h.2] h103 fun _ h105=>g0<|dw (fls [0,1,2,3,4,5] (Tr.an 6 Tr.nil)) h105 fun _ h107=> ?_
 have h108:=h107.b.t10
 refine go [rd 7 3 3 1 1 h107,rd 7 5 0 0 6 h107] ?_
 refine actG ?_
 refine ag_mapUpdate (t:=32) (m:=Ot 35) (x:=Ot 36) (y:=Ot 37) (kv:=kI) (ve:=vE) kr kr underlying32 kyI q90.1 (⟨(q90.2.d.1,q90.2.d.2.1,q90.2.d.2.2),q90.2.num,(q90.2.h.1,q90.2.h.2)⟩:Ety) kr kr kr h108 (gset Ec q90.1 ⟨(q90.2.d.1,q90.2.d.2.1,q90.2.d.2.2),q90.2.num,(q90.2.h.1,q90.2.h.2)⟩) rfl ?_
 intro _ h110
 refine⟨kd [],nxN ?_⟩
 refine g0 ?_
 refine enL ?_
 have h112:=tk9 h110.i.i.i.i.i.i.i.x.i.t10
 change ∃n',n'<_∧_
 refine⟨(S_.eraseIdx ix89).length,by omega,(S_.eraseIdx ix89),(gset Ec q90.1 ⟨(q90.2.d.1,q90.2.d.2.1,q90.2.d.2.2),q90.2.num,(q90.2.h.1,q90.2.h.2)⟩),(some q90),_,rfl,(part_go hP_ hq91),(lvF [.k 3 (pV rb),.k 26 (pV r77)]),h112⟩
theorem dscT_go{E:Tm}{v:Int}{i:Nat}{e:Ety}(h:(allE E)[i]? =some e)(hn:e.num=v):descT E v i++ [(e.d.1,e.d.2.1,e.d.2.2)]=descT E v (i+1):=by
 have h1:=descT_go (E:=E) (v:=v) (i:=i) (List.getElem?_eq_some_iff.1 h).1 (by rw[getD_some h];exact hn)
 rw[getD_some h] at h1
 exact h1
theorem dscT_no{E:Tm}{v:Int}{i:Nat}{e:Ety}(h:(allE E)[i]? =some e)(hn:e.num≠v):descT E v i=descT E v (i+1):=descT_no (List.getElem?_eq_some_iff.1 h).1 (by rw[getD_some h];exact hn)
theorem dsc_out{n:Nat}{S:Ts}(W:Wf n S){v:Int}(h:v<1∨(S.R.length:Int)<v):descs S.E v= []:=by
 unfold descs
 refine List.filterMap_eq_nil_iff.2 fun e he=>if_neg fun hn=> ?_
 obtain⟨k,_,hk⟩:=mem_allE.1 he
 obtain⟨q,r,hq,hnum,_⟩:=(W.ent _ _ hk).2.2.1
 have:=(List.getElem?_eq_some_iff.1 hq).1
 omega
theorem zdsc_ht(b n:Nat)(S:Ts)(hW:Wf n S)(vn:Int):HT prog 158 [pV b,iV vn] [Zr b n S.A (allE S.E) S.R] (fun v K=> ∃(p:Option Addr) (c:Nat),v= .tuple #[.slice p ((descs S.E vn).length) c,iV (nE S vn)]∧K= [Zr b n S.A (allE S.E) S.R,Sl 144 3 p ((descs S.E vn).length) c (fl eO (descs S.E vn))]):=by
 refine hiS func158 ntmps158 fun g w0 R h0=>g0 ?_
 by_cases c10:1≤vn
 ·
  by_cases c11:vn≤(S.R.length:Int);rotate_left
  ·
   refine cl1 call154 (by have h_:=wnum_ht b n S vn;rw[(show nE S vn=3 from if_neg om)] at h_;exact h_) h0 fun w55 h56=> ?_
   refine g0 ?_
   have h57:sat g _ (Sl 144 3 none 0 0 (fl eO [])::_):=sl_nil 144 3 h56
   have ho_:=dsc_out hW (v:=vn) om
   have h58:sat g _ (Sl 144 3 none 0 0 (fl eO (descs S.E vn))::_):=sat_imp h57 (fun _ hh_=>by rw[show ([]:List Ky)=(descs S.E vn) from ho_.symm] at hh_;exact hh_)
   have h59:sat g _ (Sl 144 3 none ((descs S.E vn).length) 0 (fl eO (descs S.E vn))::_):=sat_imp h58 (fun _ hh_=>by rw[ho_] at hh_ ⊢;exact hh_)
   exact en (.tuple #[.slice none 0 0,iV 3]) [] ⟨_,_,rfl,⟨none,0,by rw[ho_,show nE S vn=3 from if_neg om];rfl,rfl⟩,h59.a.t3⟩
  refine cl1 call154 (by have h_:=wnum_ht b n S vn;rw[(show nE S vn=0 from if_pos om)] at h_;exact h_) h0 fun w12 h13=> ?_
  refine g0 ?_
  obtain⟨s14,p15,c16,p17,c18,hq19,h20⟩:=zr_open h13
  have hb21:=hq19.1
  have hb22:=hq19.2
  have h23:sat g _ (Sl 144 3 none 0 0 (fl eO [])::_):=sl_nil 144 3 h20
  refine lpS (fun mz_ a w=> ∃k:Nat,∃p2:Option Addr,∃m2:Nat,∃c2:Nat,∃lr:Fr,mz_=((allE S.E).length)-k∧(k≤((allE S.E).length))∧(m2≤k)∧a=mk 46 (([(0,pV b),(1,iV vn),(7,.slice p2 m2 c2),(8,iV (k:Int))]:Fr)++lr)∧sat g w [Sl 144 3 p2 m2 c2 (fl eO (descT S.E vn k)),Cl b [pV s14,.slice p15 ((allE S.E).length) c16,.slice p17 S.R.length c18] 214,Zs s14 n S.A,Sl 305 6 p15 ((allE S.E).length) c16 (fl eE (allE S.E)),Sl 149 8 p17 S.R.length c18 (fl eRs S.R),R]) (((allE S.E).length)-0) ⟨0,none,0,0,_,rfl,(Nat.zero_le _),(Nat.le_refl _),(lvF [.k 0 (pV b),.k 1 (iV vn),.k 7 (.slice none 0 0),.o 8 (oJ .i64 0 (0:Int))]),h23⟩ ?_
  rintro m25 a26 w27 ⟨k,p2,m2,c2,lr24,rfl,hk_,hm2,rfl,h28⟩
  refine ga<|go [rd 6 4 1 1 1 h28,.s 6 6] ?_
  by_cases c29:(k:Int)<(((allE S.E).length:Nat):Int);rotate_left
  ·
   refine go [.v 6 6 (oF _ c29)]<|up<|g0 ?_
   have h50:sat g _ (Sl 144 3 p2 m2 c2 (fl eO (descs S.E vn))::_):=sat_imp h28 (fun _ hh_=>by rw[show ((descT S.E vn k):List Ky)=(descs S.E vn) from (by rw[show k=(allE S.E).length from by omega];exact descT_all S.E vn)] at hh_;exact hh_)
   have hl51:=fl_n eO_ok dc h50
   have h52:sat g _ (Sl 144 3 p2 ((descs S.E vn).length) c2 (fl eO (descs S.E vn))::_):=sat_imp h50 (fun _ hh_=>by rw[hl51];exact hh_)
   have h54:sat g _ (Zr b n S.A (allE S.E) S.R::_):=zr_close lO lE lE h52.d.d.d.d.t6
   exact en (.tuple #[.slice p2 m2 c2,iV 0]) [] ⟨_,_,rfl,⟨p2,c2,by rw[hl51,show nE S vn=0 from if_pos om],rfl⟩,h54⟩
  obtain⟨b30,hp31⟩:=sl_ptr0 (j:=3) h28 rfl om
  refine go [.v 6 6 (oT _ c29),rd 8 3 1 1 1 h28,.s 8 5]<|lwP (.pointer (some ⟨b30,k*6,none⟩)) (liP (Ot 27) (Ot 28) p15 b30 0 (k:Int) ((allE S.E).length) c16 underlying211 6 k hp31 (k*6)) ?_
  obtain⟨x32,hx33⟩: ∃x,(allE S.E)[k]? =some x:=⟨_,List.getElem?_eq_getElem om⟩
  refine go [.r 8 7 b30 (k*6+3) [iV x32.num] ⟨gvc 3 h28 rfl hp31 eE_ok 3 (iV x32.num) hx33 (k*6+3),trivial⟩,.s 8 9] ?_
  by_cases c34:x32.num=vn
  ·
   refine go [.v 8 9 (qeT _ _ c34),rd 9 4 1 1 1 h28,.s 9 6]<|lwP (.pointer (some ⟨b30,k*6,none⟩)) (liP (Ot 38) (Ot 39) p15 b30 0 (k:Int) ((allE S.E).length) c16 underlying211 6 k hp31 (k*6))<|go [.r 9 8 b30 (k*6) [iV x32.d.1,iV x32.d.2.1,uV x32.d.2.2] ⟨gvc 3 h28 rfl hp31 eE_ok 0 (iV x32.d.1) hx33 (k*6),gvc 3 h28 rfl hp31 eE_ok 1 (iV x32.d.2.1) hx33 (k*6+1),gvc 3 h28 rfl hp31 eE_ok 2 (uV x32.d.2.2) hx33 (k*6+2),trivial⟩]<|nG (fun q_=> .slice (some ⟨q_,0,none⟩) 1 1) 144 [iV x32.d.1,iV x32.d.2.1,uV x32.d.2.2] h28 (fun r35 _ h37=>⟨kd [],?_⟩)
   have h38:=h37.a.t7
   refine actG ?_
   refine aA 44 3 (Ot 34) (Ot 43) (.agg #[iV 0,iV 0,uV 0]) p2 m2 c2 1 1 (⟨r35,0,none⟩) 24 underlying120 h38 (fl eO [(x32.d.1,x32.d.2.1,x32.d.2.2)]) rfl (cell1 h38 rfl) (fl_one eO_ok _) (m2+1) ?_
   intro p39 cap40 w41 h42
   have h43:sat g _ (Sl 144 3 p39 (m2+1) cap40 (fl eO ((descT S.E vn k)++ [(x32.d.1,x32.d.2.1,x32.d.2.2)]))::_):=sJ h42
   obtain⟨hn44,hn45⟩:=sl_le h43
   refine nxA<|go [.v 7 1 (oIr ((k:Int)+1))] ?_
   refine enL ?_
   have h46:sat g _ (Sl 144 3 p39 (m2+1) cap40 (fl eO (descT S.E vn (k+1)))::_):=sat_imp h43 (fun _ hh_=>by rw[show (((descT S.E vn k)++ [(x32.d.1,x32.d.2.1,x32.d.2.2)]):List Ky)=(descT S.E vn (k+1)) from dscT_go hx33 om] at hh_;exact hh_)
   have h48:=tk6 h46.f.f.f.f.f.e.t7
   change ∃n',n'<_∧_
   refine⟨(((allE S.E).length)-(k+1)),by omega,(k+1),p39,m2+1,cap40,_,rfl,om,om,(lvF [.k 0 (pV b),.k 1 (iV vn),.k 7 (.slice p39 (m2+1) cap40),.o 8 (oJ .i64 ((k:Int)+1) (((k+1):Nat):Int))]),h48⟩
  refine go [.v 8 9 (qeF _ _ c34),.v 7 1 (oIr ((k:Int)+1))] ?_
  refine enL ?_
  have h49:sat g _ (Sl 144 3 p2 m2 c2 (fl eO (descT S.E vn (k+1)))::_):=sat_imp h28 (fun _ hh_=>by rw[show ((descT S.E vn k):List Ky)=(descT S.E vn (k+1)) from dscT_no hx33 om] at hh_;exact hh_)
  change ∃n',n'<_∧_
  refine⟨(((allE S.E).length)-(k+1)),by omega,(k+1),p2,m2,c2,_,rfl,om,om,(lvF [.k 0 (pV b),.k 1 (iV vn),.k 7 (.slice p2 m2 c2),.o 8 (oJ .i64 ((k:Int)+1) (((k+1):Nat):Int))]),h49⟩
 refine cl1 call154 (by have h_:=wnum_ht b n S vn;rw[(show nE S vn=3 from if_neg om)] at h_;exact h_) h0 fun w61 h62=> ?_
 refine g0 ?_
 have h63:sat g _ (Sl 144 3 none 0 0 (fl eO [])::_):=sl_nil 144 3 h62
 have ho_:=dsc_out hW (v:=vn) om
 have h64:sat g _ (Sl 144 3 none 0 0 (fl eO (descs S.E vn))::_):=sat_imp h63 (fun _ hh_=>by rw[show ([]:List Ky)=(descs S.E vn) from ho_.symm] at hh_;exact hh_)
 have h65:sat g _ (Sl 144 3 none ((descs S.E vn).length) 0 (fl eO (descs S.E vn))::_):=sat_imp h64 (fun _ hh_=>by rw[ho_] at hh_ ⊢;exact hh_)
 exact en (.tuple #[.slice none 0 0,iV 3]) [] ⟨_,_,rfl,⟨none,0,by rw[ho_,show nE S vn=3 from if_neg om];rfl,rfl⟩,h65.a.t3⟩
theorem znums_ht(b n:Nat)(S:Ts)(vn:Int):HT prog 181 [pV b,iV vn] [Zr b n S.A (allE S.E) S.R] (fun v K=> ∃(p:Option Addr) (c:Nat),v= .slice p ((nums S.R vn).length) c∧K= [Zr b n S.A (allE S.E) S.R,Sl 3 1 p ((nums S.R vn).length) c (fl eI (nums S.R vn))]):=by
 refine hiS func181 ntmps181 fun g w0 R h0=>g0 ?_
 obtain⟨s10,p11,c12,p13,c14,hq15,h16⟩:=zr_open h0
 have hb17:=hq15.1
 have hb18:=hq15.2
 have h19:sat g _ (Sl 3 1 none 0 0 (fl eI [])::_):=sl_nil 3 1 h16
 refine lpS (fun mz_ a w=> ∃k:Nat,∃p2:Option Addr,∃m2:Nat,∃c2:Nat,∃lr:Fr,mz_=S.R.length-k∧(k≤S.R.length)∧(m2≤k)∧a=mk 36 (([(0,pV b),(1,iV vn),(5,.slice p2 m2 c2),(6,iV (k:Int))]:Fr)++lr)∧sat g w [Sl 3 1 p2 m2 c2 (fl eI (numsT S.R vn k)),Cl b [pV s10,.slice p11 ((allE S.E).length) c12,.slice p13 S.R.length c14] 214,Zs s10 n S.A,Sl 305 6 p11 ((allE S.E).length) c12 (fl eE (allE S.E)),Sl 149 8 p13 S.R.length c14 (fl eRs S.R),R]) (S.R.length-0) ⟨0,none,0,0,_,rfl,(Nat.zero_le _),(Nat.le_refl _),(lvF [.k 0 (pV b),.k 1 (iV vn),.k 5 (.slice none 0 0),.o 6 (oJ .i64 0 (0:Int))]),h19⟩ ?_
 rintro m21 a22 w23 ⟨k,p2,m2,c2,lr20,rfl,hk_,hm2,rfl,h24⟩
 refine ga ?_
 have h25:=h24.a.t6
 refine g0<|cl1 call148 (rvalid_cl b s10 p11 ((allE S.E).length) c12 p13 S.R.length c14) h25 fun w26 h27=>go [rd 3 7 0 2 1 h27,.s 3 9] ?_
 by_cases c28:(k:Int)<(S.R.length:Int)
 ·
  obtain⟨b29,hp30⟩:=sl_ptr0 (j:=4) h27 rfl om
  refine go [.v 3 9 (oT _ c28),rd 5 3 0 2 1 h27,.s 5 5]<|lwP (.pointer (some ⟨b29,k*8,none⟩)) (liP (Ot 23) (Ot 24) p13 b29 0 (k:Int) S.R.length c14 underlying212 8 k hp30 (k*8)) ?_
  obtain⟨x31,hx32⟩:=gX S.R k om
  refine go [.r 5 7 b29 (k*8+3) [iV x31.st] ⟨gvc 4 h27 rfl hp30 eRs_ok 3 (iV x31.st) hx32 (k*8+3),trivial⟩,.s 5 9] ?_
  by_cases c33:x31.st=vn
  ·
   refine go [.v 5 9 (qeT _ _ c33),.v 6 2 (oIr ((k:Int)+1))]<|nG (fun q_=> .slice (some ⟨q_,0,none⟩) 1 1) 3 [iV ((k:Int)+1)] h27 (fun r34 _ h36=>⟨kd [],?_⟩)
   have h37:=h36.b.t7
   refine actG ?_
   refine aA 34 1 (Ot 30) (Ot 33) (iV 0) p2 m2 c2 1 1 (⟨r34,0,none⟩) 8 underlying37 h37 (fl eI [(k:Int)+1]) rfl (cell1 h37 rfl) (fl_one eI_ok _) (m2+1) ?_
   intro p38 cap39 w40 h41
   have h42:sat g _ (Sl 3 1 p38 (m2+1) cap39 (fl eI ((numsT S.R vn k)++ [(k:Int)+1]))::_):=sJ h41
   obtain⟨hn43,hn44⟩:=sl_le h42
   refine nxA<|go [.v 4 1 (oIr ((k:Int)+1))] ?_
   refine enL ?_
   have h45:sat g _ (Sl 3 1 p38 (m2+1) cap39 (fl eI (numsT S.R vn (k+1)))::_):=sat_imp h42 (fun _ hh_=>by rw[show (((numsT S.R vn k)++ [(k:Int)+1]):List Int)=(numsT S.R vn (k+1)) from numsT_go hx32 om] at hh_;exact hh_)
   have h47:=tk6 h45.f.f.f.f.f.e.t7
   change ∃n',n'<_∧_
   refine⟨(S.R.length-(k+1)),by omega,(k+1),p38,m2+1,cap39,_,rfl,om,om,(lvF [.k 0 (pV b),.k 1 (iV vn),.k 5 (.slice p38 (m2+1) cap39),.o 6 (oJ .i64 ((k:Int)+1) (((k+1):Nat):Int))]),h47⟩
  refine go [.v 5 9 (qeF _ _ c33),.v 4 1 (oIr ((k:Int)+1))] ?_
  refine enL ?_
  have h49:sat g _ (Sl 3 1 p2 m2 c2 (fl eI (numsT S.R vn (k+1)))::_):=sat_imp h27.a.t6 (fun _ hh_=>by rw[show ((numsT S.R vn k):List Int)=(numsT S.R vn (k+1)) from numsT_no hx32 om] at hh_;exact hh_)
  change ∃n',n'<_∧_
  refine⟨(S.R.length-(k+1)),by omega,(k+1),p2,m2,c2,_,rfl,om,om,(lvF [.k 0 (pV b),.k 1 (iV vn),.k 5 (.slice p2 m2 c2),.o 6 (oJ .i64 ((k:Int)+1) (((k+1):Nat):Int))]),h49⟩
 refine go [.v 3 9 (oF _ c28)]<|up<|g0 ?_
 have h51:sat g _ (Sl 3 1 p2 m2 c2 (fl eI (nums S.R vn))::_):=sat_imp h27.a.t6 (fun _ hh_=>by rw[show ((numsT S.R vn k):List Int)=(nums S.R vn) from (by rw[show k=S.R.length from by omega];rfl)] at hh_;exact hh_)
 have hl52:=fl_n eI_ok dc h51
 have h53:sat g _ (Sl 3 1 p2 ((nums S.R vn).length) c2 (fl eI (nums S.R vn))::_):=sat_imp h51 (fun _ hh_=>by rw[hl52];exact hh_)
 have h55:sat g _ (Zr b n S.A (allE S.E) S.R::_):=zr_close lO lE lE h53.d.d.d.d.t6
 exact en (.slice p2 m2 c2) [] ⟨_,_,rfl,⟨p2,c2,by rw[hl52],rfl⟩,h55⟩
theorem allE_nil:allE []= []:=List.filterMap_eq_nil_iff.2 fun _ _=>rfl
theorem free_some{A:List Sl2}(h: ¬(inS 0 A 0).length=0): ∃j g,freeS A=some (j,g):=by
 cases hf:freeS A with
 |none=>exact absurd (freeS_none.1 hf) h
 |some x=>exact⟨x.1,x.2,rfl⟩
theorem tail_len(E:Tm): ∀(m j:Nat),(tailE E j m).length≤m
 |0,_=>Nat.le_refl _
 |m+1,j=>by
  have:=tail_len E m (j+1)
  rw[tailE_succ]
  cases gget E (j:Int) with
  |none=>simp only;omega
  |some e=>simp only[List.length_cons];omega
theorem free_at{n:Nat}{S:Ts}(W:Wf n S){j:Nat}{g:Int}(hf:freeS S.A=some (j,g)):j<256∧gget S.E (j:Int)=none:=by
 have hj:=freeS_some hf
 have hl:=(List.getElem?_eq_some_iff.1 hj).1
 have:=W.bd
 rw[W.len] at hl
 refine⟨by omega,?_⟩
 cases hg:gget S.E (j:Int) with
 |none=>rfl
 |some e=>
  obtain⟨q2,h1,_,h2⟩:=wf_slot W hg
  obtain rfl:j=q2:=by omega
  rw[hj] at h2
  simp at h2
theorem wf_room{n:Nat}{S:Ts}(W:Wf n S){j:Nat}{g:Int}(hf:freeS S.A=some (j,g)):(allE S.E).length<256:=by
 obtain⟨h1,h2⟩:=free_at W hf
 have h3:=cntE_le S.E j
 have h4:=tail_len S.E (256-j-1) (j+1)
 rw[all_split S.E h1,tail_one (E:=S.E) om,h2,List.length_append,List.nil_append]
 omega
theorem fnd_slot{n:Nat}{S:Ts}(W:Wf n S){d:Ky}(h:fndE S d=0):S.A[d.2.1.toNat]? =some (1,d.2.2)∧d.2.1.toNat<256∧(d.2.1.toNat:Int)=d.2.1∧gget S.E d.2.1=some (fndX S d)∧(fndX S d).d=d:=by
 obtain⟨hg,e,h1,h2⟩:=fndE_ok.1 h
 obtain⟨q,h3,h4,h5⟩:=wf_slot W h1
 have:=W.bd
 have hx:=(fndX_ok hg h1 h2).2
 have hq:d.2.1.toNat=q:=by omega
 refine⟨by rw[hq,h5,h2],by omega,by omega,by rw[hx];exact h1,by rw[hx];exact h2⟩
theorem addS_at{S:Ts}{c num:Int}{h:Int×Int}{j:Nat}{g:Int}(hf:freeS S.A=some (j,g)):addS S c num h=⟨S.A.set j (1,g),gset S.E (j:Int) ⟨(c,(j:Int),g),num,h⟩,S.R⟩∧addD S.A c=(c,(j:Int),g):=by
 unfold addS addD
 rw[hf]
 exact⟨rfl,rfl⟩
theorem zrnew_ok(n:Nat)(z vg:Int)(hz:z=(n:Int))(h1:1≤n)(h2:n≤256)(hg:1≤vg∧vg≤4294967295):HT prog 65 [iV z,uV vg] [] (fun v K=> ∃b:Nat,v= .tuple #[pV b,iV 0]∧K= [Zr b n (List.replicate n (0,vg)) [] []]):=by
 refine hiS func65 ntmps65 fun g w0 R h0=>g0<|cP call128 (znew_ok n z vg om om om om) h0 ?_
 rintro v K _ (⟨b10,rfl,rfl⟩) h12
 have h13:=ap1 h12
 refine g0<|nP 214 [pV b10,.slice none 0 0,.slice none 0 0] h13 (fun r14 w15 h16=> ?_)
 refine g0 ?_
 have h17:sat g _ (Sl 149 8 none 0 0 (fl eRs [])::_):=sl_nil 149 8 h16
 have h18:sat g _ (Sl 305 6 none 0 0 (fl eE [])::_):=sl_nil 305 6 h17
 have h20:sat g _ (Zr r14 n (List.replicate n (0,vg)) [] []::_):=zr_close dc rfl rfl h18.c.c.t5
 exact en (.tuple #[pV r14,iV 0]) [] ⟨_,_,rfl,⟨r14,rfl,rfl⟩,h20⟩
theorem zrcopy_ht(b n:Nat)(S:Ts):HT prog 83 [pV b] [Zr b n S.A (allE S.E) S.R] (fun v K=> ∃b2:Nat,v=pV b2∧K= [Zr b n S.A (allE S.E) S.R,Zr b2 n S.A (allE S.E) S.R]):=by
 refine hiS func83 ntmps83 fun g w0 R h0=> ?_
 obtain⟨s10,p11,c12,p13,c14,hq15,h16⟩:=zr_open h0
 have hb17:=hq15.1
 have hb18:=hq15.2
 refine g0<|cl1 call148 (rvalid_cl b s10 p11 ((allE S.E).length) c12 p13 S.R.length c14) h16 fun _ h20=>g0<|dw (fls [0,1,2,3,6,7,8,9,12,13,14,15] (Tr.an3 4 (Tr.an2 5 (Tr.an2 10 (Tr.an 11 (Tr.an 16 (Tr.fl 17 (Tr.an 18 (Tr.fl 19 Tr.nil))))) 11 (Tr.an 10 (Tr.an 16 (Tr.fl 17 (Tr.an 18 (Tr.fl 19 Tr.nil)))))) 11 (Tr.an 5 (Tr.an 10 (Tr.an 16 (Tr.fl 17 (Tr.an 18 (Tr.fl 19 Tr.nil))))))) 5 (Tr.an2 4 (Tr.an2 10 (Tr.an 11 (Tr.an 16 (Tr.fl 17 (Tr.an 18 (Tr.fl 19 Tr.nil))))) 11 (Tr.an 10 (Tr.an 16 (Tr.fl 17 (Tr.an 18 (Tr.fl 19 Tr.nil)))))) 11 (Tr.an 4 (Tr.an 10 (Tr.an 16 (Tr.fl 17 (Tr.an 18 (Tr.fl 19 Tr.nil))))))) 11 (Tr.an2 4 (Tr.an 5 (Tr.an 10 (Tr.an 16 (Tr.fl 17 (Tr.an 18 (Tr.fl 19 Tr.nil)))))) 5 (Tr.an 4 (Tr.an 10 (Tr.an 16 (Tr.fl 17 (Tr.an 18 (Tr.fl 19 Tr.nil))))))))) h20 fun _ h22=>go [rd 3 3 0 0 1 h22,rd 3 9 0 1 1 h22,rd 3 15 0 2 1 h22] ?_
 refine br3 ?_ ?_ ?_
 ·
  refine cG call165 (zcopy_ht s10 n S.A) h22.a.t5 ?_
  rintro v K _ (⟨b23,rfl,rfl⟩) h26
  have h27:=ap2 h26
  refine⟨kd [rd 0 15 2 2 1 h27,rd 0 9 2 1 1 h27],?_⟩
  refine br2 ?_ ?_;rotate_left
  ·
   refine nG (fun q_=> .slice (some ⟨q_,0,none⟩) 0 0) 149 [] h27 (fun r87 _ h89=>⟨kd [rd 0 15 3 2 1 h89,rd 0 9 3 1 1 h89],?_⟩)
   refine nG (fun q_=> .slice (some ⟨q_,0,none⟩) 0 0) 305 [] h89 (fun r90 w91 h92=>⟨kd [rd 0 15 4 2 1 h92,rd 0 9 4 1 1 h92],?_⟩)
   have h93:sat g _ (Sl 305 6 (some ⟨r90,0,none⟩) 0 0 (fl eE [])::_):=sl_of_cl h92 rfl om
   refine actG ?_
   refine aG 16 6 (Ot 11) (Ot 15) (.agg #[iV 0,iV 0,uV 0,iV 0,iV 0,uV 0]) (some ⟨r90,0,none⟩) p11 0 0 ((allE S.E).length) c12 48 underlying211 h93 5 rfl (fl eE (allE S.E)) (gv_sl _ _ _) (fl_len eE_ok _) (fl_one eE_ok _) ((allE S.E).length) ?_
   intro p94 cap95 w96 h97
   have h98:sat g _ (Sl 305 6 p94 ((allE S.E).length) cap95 (fl eE (allE S.E))::_):=sI h97
   obtain⟨hn99,hn100⟩:=sl_le h98
   refine⟨kd [rd 0 15 4 2 1 h98],nxG ?_⟩
   have h102:sat g _ (Sl 149 8 (some ⟨r87,0,none⟩) 0 0 (fl eRs [])::_):=sl_of_cl h98.a.t8 rfl om
   refine actG ?_
   refine aG 22 8 (Ot 17) (Ot 21) (.agg #[iV 0,iV 0,uV 0,iV 0,iV 0,iV 0,iV 0,.string (St [])]) (some ⟨r87,0,none⟩) p13 0 0 S.R.length c14 72 underlying212 h102 6 rfl (fl eRs S.R) (gv_sl _ _ _) (fl_len eRs_ok _) (fl_one eRs_ok _) S.R.length ?_
   intro p103 cap104 w105 h106
   have h107:sat g _ (Sl 149 8 p103 S.R.length cap104 (fl eRs S.R)::_):=sI h106
   obtain⟨hn108,hn109⟩:=sl_le h107
   refine⟨kd [],nxG ?_⟩
   refine g0<|nG (fun q_=>pV q_) 214 [pV b23,.slice p94 ((allE S.E).length) cap95,.slice p103 S.R.length cap104] h107 (fun r110 w111 h112=>⟨kd [],?_⟩)
   refine g0 ?_
   have h114:sat g _ (Zr b n S.A (allE S.E) S.R::_):=zr_close lO lE lE h112.x.x.e.x.t9
   have h116:sat g _ (Zr r110 n S.A (allE S.E) S.R::_):=zr_close lO lE lE h114.b.c.d.d.t6
   exact en (pV r110) [] ⟨_,_,rfl,⟨r110,rfl,rfl⟩,h116.a.t3⟩
  refine nG (fun q_=> .slice (some ⟨q_,0,none⟩) 0 0) 305 [] h27 (fun r28 w29 h30=>⟨kd [rd 0 15 3 2 1 h30,rd 0 9 3 1 1 h30],?_⟩)
  refine br2 ?_ ?_
  ·
   have h31:sat g _ (Sl 305 6 (some ⟨r28,0,none⟩) 0 0 (fl eE [])::_):=sl_of_cl h30 rfl om
   refine actG ?_
   refine aG 16 6 (Ot 11) (Ot 15) (.agg #[iV 0,iV 0,uV 0,iV 0,iV 0,uV 0]) (some ⟨r28,0,none⟩) p11 0 0 ((allE S.E).length) c12 48 underlying211 h31 4 rfl (fl eE (allE S.E)) (gv_sl _ _ _) (fl_len eE_ok _) (fl_one eE_ok _) ((allE S.E).length) ?_
   intro p32 cap33 w34 h35
   have h36:sat g _ (Sl 305 6 p32 ((allE S.E).length) cap33 (fl eE (allE S.E))::_):=sI h35
   obtain⟨hn37,hn38⟩:=sl_le h36
   refine⟨kd [rd 0 15 3 2 1 h36],nxG ?_⟩
   refine nG (fun q_=> .slice (some ⟨q_,0,none⟩) 0 0) 149 [] h36 (fun r39 w40 h41=>⟨kd [rd 0 15 4 2 1 h41],?_⟩)
   have h42:sat g _ (Sl 149 8 (some ⟨r39,0,none⟩) 0 0 (fl eRs [])::_):=sl_of_cl h41 rfl om
   refine actG ?_
   refine aG 22 8 (Ot 17) (Ot 21) (.agg #[iV 0,iV 0,uV 0,iV 0,iV 0,iV 0,iV 0,.string (St [])]) (some ⟨r39,0,none⟩) p13 0 0 S.R.length c14 72 underlying212 h42 6 rfl (fl eRs S.R) (gv_sl _ _ _) (fl_len eRs_ok _) (fl_one eRs_ok _) S.R.length ?_
   intro p43 cap44 w45 h46
   have h47:sat g _ (Sl 149 8 p43 S.R.length cap44 (fl eRs S.R)::_):=sI h46
   obtain⟨hn48,hn49⟩:=sl_le h47
   refine⟨kd [],nxG ?_⟩
   refine g0<|nG (fun q_=>pV q_) 214 [pV b23,.slice p32 ((allE S.E).length) cap33,.slice p43 S.R.length cap44] h47 (fun r50 w51 h52=>⟨kd [],?_⟩)
   refine g0 ?_
   have h54:sat g _ (Zr b n S.A (allE S.E) S.R::_):=zr_close lO lE lE h52.x.x.e.x.t9
   have h56:sat g _ (Zr r50 n S.A (allE S.E) S.R::_):=zr_close lO lE lE h54.b.c.d.d.t6
   exact en (pV r50) [] ⟨_,_,rfl,⟨r50,rfl,rfl⟩,h56.a.t3⟩
  refine nG (fun q_=> .slice (some ⟨q_,0,none⟩) 0 0) 149 [] h30 (fun r58 w59 h60=>⟨kd [rd 0 15 4 2 1 h60,rd 0 9 4 1 1 h60],?_⟩)
  have h62:sat g _ (Sl 305 6 (some ⟨r28,0,none⟩) 0 0 (fl eE [])::_):=sl_of_cl h60.a.t8 rfl om
  refine actG ?_
  refine aG 16 6 (Ot 11) (Ot 15) (.agg #[iV 0,iV 0,uV 0,iV 0,iV 0,uV 0]) (some ⟨r28,0,none⟩) p11 0 0 ((allE S.E).length) c12 48 underlying211 h62 5 rfl (fl eE (allE S.E)) (gv_sl _ _ _) (fl_len eE_ok _) (fl_one eE_ok _) ((allE S.E).length) ?_
  intro p63 cap64 w65 h66
  have h67:sat g _ (Sl 305 6 p63 ((allE S.E).length) cap64 (fl eE (allE S.E))::_):=sI h66
  obtain⟨hn68,hn69⟩:=sl_le h67
  refine⟨kd [rd 0 15 4 2 1 h67],nxG ?_⟩
  have h71:sat g _ (Sl 149 8 (some ⟨r58,0,none⟩) 0 0 (fl eRs [])::_):=sl_of_cl h67.a.t8 rfl om
  refine actG ?_
  refine aG 22 8 (Ot 17) (Ot 21) (.agg #[iV 0,iV 0,uV 0,iV 0,iV 0,iV 0,iV 0,.string (St [])]) (some ⟨r58,0,none⟩) p13 0 0 S.R.length c14 72 underlying212 h71 6 rfl (fl eRs S.R) (gv_sl _ _ _) (fl_len eRs_ok _) (fl_one eRs_ok _) S.R.length ?_
  intro p72 cap73 w74 h75
  have h76:sat g _ (Sl 149 8 p72 S.R.length cap73 (fl eRs S.R)::_):=sI h75
  obtain⟨hn77,hn78⟩:=sl_le h76
  refine⟨kd [],nxG ?_⟩
  refine g0<|nG (fun q_=>pV q_) 214 [pV b23,.slice p63 ((allE S.E).length) cap64,.slice p72 S.R.length cap73] h76 (fun r79 w80 h81=>⟨kd [],?_⟩)
  refine g0 ?_
  have h83:sat g _ (Zr b n S.A (allE S.E) S.R::_):=zr_close lO lE lE h81.x.x.e.x.t9
  have h85:sat g _ (Zr r79 n S.A (allE S.E) S.R::_):=zr_close lO lE lE h83.b.c.d.d.t6
  exact en (pV r79) [] ⟨_,_,rfl,⟨r79,rfl,rfl⟩,h85.a.t3⟩
 ·
  refine nG (fun q_=> .slice (some ⟨q_,0,none⟩) 0 0) 305 [] h22 (fun r118 _ h120=>⟨kd [rd 0 15 1 2 1 h120,rd 0 9 1 1 1 h120,rd 0 3 1 0 1 h120],?_⟩)
  refine br2 ?_ ?_;rotate_left
  ·
   refine nG (fun q_=> .slice (some ⟨q_,0,none⟩) 0 0) 149 [] h120 (fun r183 _ h185=>⟨kd [rd 0 15 2 2 1 h185,rd 0 9 2 1 1 h185,rd 0 3 2 0 1 h185],?_⟩)
   refine cG call165 (zcopy_ht s10 n S.A) h185.c.t7 ?_
   rintro v K w188 (⟨b186,rfl,rfl⟩) h189
   have h190:=ap2 h189
   refine⟨kd [rd 0 15 4 2 1 h190,rd 0 9 4 1 1 h190],?_⟩
   have h192:sat g _ (Sl 305 6 (some ⟨r118,0,none⟩) 0 0 (fl eE [])::_):=sl_of_cl h190.c.t8 rfl om
   refine actG ?_
   refine aG 16 6 (Ot 11) (Ot 15) (.agg #[iV 0,iV 0,uV 0,iV 0,iV 0,uV 0]) (some ⟨r118,0,none⟩) p11 0 0 ((allE S.E).length) c12 48 underlying211 h192 5 rfl (fl eE (allE S.E)) (gv_sl _ _ _) (fl_len eE_ok _) (fl_one eE_ok _) ((allE S.E).length) ?_
   intro p193 cap194 w195 h196
   have h197:sat g _ (Sl 305 6 p193 ((allE S.E).length) cap194 (fl eE (allE S.E))::_):=sI h196
   obtain⟨hn198,hn199⟩:=sl_le h197
   refine⟨kd [rd 0 15 4 2 1 h197],nxG ?_⟩
   have h201:sat g _ (Sl 149 8 (some ⟨r183,0,none⟩) 0 0 (fl eRs [])::_):=sl_of_cl h197.c.t8 rfl om
   refine actG ?_
   refine aG 22 8 (Ot 17) (Ot 21) (.agg #[iV 0,iV 0,uV 0,iV 0,iV 0,iV 0,iV 0,.string (St [])]) (some ⟨r183,0,none⟩) p13 0 0 S.R.length c14 72 underlying212 h201 6 rfl (fl eRs S.R) (gv_sl _ _ _) (fl_len eRs_ok _) (fl_one eRs_ok _) S.R.length ?_
   intro p202 cap203 w204 h205
   have h206:sat g _ (Sl 149 8 p202 S.R.length cap203 (fl eRs S.R)::_):=sI h205
   obtain⟨hn207,hn208⟩:=sl_le h206
   refine⟨kd [],nxG ?_⟩
   refine g0<|nG (fun q_=>pV q_) 214 [pV b186,.slice p193 ((allE S.E).length) cap194,.slice p202 S.R.length cap203] h206 (fun r209 w210 h211=>⟨kd [],?_⟩)
   refine g0 ?_
   have h213:sat g _ (Zr b n S.A (allE S.E) S.R::_):=zr_close lO lE lE h211.x.x.e.x.t9
   have h215:sat g _ (Zr r209 n S.A (allE S.E) S.R::_):=zr_close lO lE lE h213.b.c.d.d.t6
   exact en (pV r209) [] ⟨_,_,rfl,⟨r209,rfl,rfl⟩,h215.a.t3⟩
  refine cG call165 (zcopy_ht s10 n S.A) h120.b.t6 ?_
  rintro v K w123 (⟨b121,rfl,rfl⟩) h124
  have h125:=ap2 h124
  refine⟨kd [rd 0 15 3 2 1 h125,rd 0 9 3 1 1 h125],?_⟩
  refine br2 ?_ ?_
  ·
   have h127:sat g _ (Sl 305 6 (some ⟨r118,0,none⟩) 0 0 (fl eE [])::_):=sl_of_cl h125.b.t7 rfl om
   refine actG ?_
   refine aG 16 6 (Ot 11) (Ot 15) (.agg #[iV 0,iV 0,uV 0,iV 0,iV 0,uV 0]) (some ⟨r118,0,none⟩) p11 0 0 ((allE S.E).length) c12 48 underlying211 h127 4 rfl (fl eE (allE S.E)) (gv_sl _ _ _) (fl_len eE_ok _) (fl_one eE_ok _) ((allE S.E).length) ?_
   intro p128 cap129 w130 h131
   have h132:sat g _ (Sl 305 6 p128 ((allE S.E).length) cap129 (fl eE (allE S.E))::_):=sI h131
   obtain⟨hn133,hn134⟩:=sl_le h132
   refine⟨kd [rd 0 15 3 2 1 h132],nxG ?_⟩
   refine nG (fun q_=> .slice (some ⟨q_,0,none⟩) 0 0) 149 [] h132 (fun r135 w136 h137=>⟨kd [rd 0 15 4 2 1 h137],?_⟩)
   have h138:sat g _ (Sl 149 8 (some ⟨r135,0,none⟩) 0 0 (fl eRs [])::_):=sl_of_cl h137 rfl om
   refine actG ?_
   refine aG 22 8 (Ot 17) (Ot 21) (.agg #[iV 0,iV 0,uV 0,iV 0,iV 0,iV 0,iV 0,.string (St [])]) (some ⟨r135,0,none⟩) p13 0 0 S.R.length c14 72 underlying212 h138 6 rfl (fl eRs S.R) (gv_sl _ _ _) (fl_len eRs_ok _) (fl_one eRs_ok _) S.R.length ?_
   intro p139 cap140 w141 h142
   have h143:sat g _ (Sl 149 8 p139 S.R.length cap140 (fl eRs S.R)::_):=sI h142
   obtain⟨hn144,hn145⟩:=sl_le h143
   refine⟨kd [],nxG ?_⟩
   refine g0<|nG (fun q_=>pV q_) 214 [pV b121,.slice p128 ((allE S.E).length) cap129,.slice p139 S.R.length cap140] h143 (fun r146 w147 h148=>⟨kd [],?_⟩)
   refine g0 ?_
   have h150:sat g _ (Zr b n S.A (allE S.E) S.R::_):=zr_close lO lE lE h148.x.x.e.x.t9
   have h152:sat g _ (Zr r146 n S.A (allE S.E) S.R::_):=zr_close lO lE lE h150.b.c.d.d.t6
   exact en (pV r146) [] ⟨_,_,rfl,⟨r146,rfl,rfl⟩,h152.a.t3⟩
  refine nG (fun q_=> .slice (some ⟨q_,0,none⟩) 0 0) 149 [] h125 (fun r154 w155 h156=>⟨kd [rd 0 15 4 2 1 h156,rd 0 9 4 1 1 h156],?_⟩)
  have h158:sat g _ (Sl 305 6 (some ⟨r118,0,none⟩) 0 0 (fl eE [])::_):=sl_of_cl h156.c.t8 rfl om
  refine actG ?_
  refine aG 16 6 (Ot 11) (Ot 15) (.agg #[iV 0,iV 0,uV 0,iV 0,iV 0,uV 0]) (some ⟨r118,0,none⟩) p11 0 0 ((allE S.E).length) c12 48 underlying211 h158 5 rfl (fl eE (allE S.E)) (gv_sl _ _ _) (fl_len eE_ok _) (fl_one eE_ok _) ((allE S.E).length) ?_
  intro p159 cap160 w161 h162
  have h163:sat g _ (Sl 305 6 p159 ((allE S.E).length) cap160 (fl eE (allE S.E))::_):=sI h162
  obtain⟨hn164,hn165⟩:=sl_le h163
  refine⟨kd [rd 0 15 4 2 1 h163],nxG ?_⟩
  have h167:sat g _ (Sl 149 8 (some ⟨r154,0,none⟩) 0 0 (fl eRs [])::_):=sl_of_cl h163.a.t8 rfl om
  refine actG ?_
  refine aG 22 8 (Ot 17) (Ot 21) (.agg #[iV 0,iV 0,uV 0,iV 0,iV 0,iV 0,iV 0,.string (St [])]) (some ⟨r154,0,none⟩) p13 0 0 S.R.length c14 72 underlying212 h167 6 rfl (fl eRs S.R) (gv_sl _ _ _) (fl_len eRs_ok _) (fl_one eRs_ok _) S.R.length ?_
  intro p168 cap169 w170 h171
  have h172:sat g _ (Sl 149 8 p168 S.R.length cap169 (fl eRs S.R)::_):=sI h171
  obtain⟨hn173,hn174⟩:=sl_le h172
  refine⟨kd [],nxG ?_⟩
  refine g0<|nG (fun q_=>pV q_) 214 [pV b121,.slice p159 ((allE S.E).length) cap160,.slice p168 S.R.length cap169] h172 (fun r175 w176 h177=>⟨kd [],?_⟩)
  refine g0 ?_
  have h179:sat g _ (Zr b n S.A (allE S.E) S.R::_):=zr_close lO lE lE h177.x.x.e.x.t9
  have h181:sat g _ (Zr r175 n S.A (allE S.E) S.R::_):=zr_close lO lE lE h179.b.c.d.d.t6
  exact en (pV r175) [] ⟨_,_,rfl,⟨r175,rfl,rfl⟩,h181.a.t3⟩
 refine nG (fun q_=> .slice (some ⟨q_,0,none⟩) 0 0) 149 [] h22 (fun r217 _ h219=>⟨kd [rd 0 15 1 2 1 h219,rd 0 9 1 1 1 h219,rd 0 3 1 0 1 h219],?_⟩)
 refine br2 ?_ ?_
 ·
  refine cG call165 (zcopy_ht s10 n S.A) h219.b.t6 ?_
  rintro v K _ (⟨b220,rfl,rfl⟩) h223
  have h224:=ap2 h223
  refine⟨kd [rd 0 15 3 2 1 h224,rd 0 9 3 1 1 h224],?_⟩
  refine nG (fun q_=> .slice (some ⟨q_,0,none⟩) 0 0) 305 [] h224 (fun r225 w226 h227=>⟨kd [rd 0 15 4 2 1 h227,rd 0 9 4 1 1 h227],?_⟩)
  have h228:sat g _ (Sl 305 6 (some ⟨r225,0,none⟩) 0 0 (fl eE [])::_):=sl_of_cl h227 rfl om
  refine actG ?_
  refine aG 16 6 (Ot 11) (Ot 15) (.agg #[iV 0,iV 0,uV 0,iV 0,iV 0,uV 0]) (some ⟨r225,0,none⟩) p11 0 0 ((allE S.E).length) c12 48 underlying211 h228 5 rfl (fl eE (allE S.E)) (gv_sl _ _ _) (fl_len eE_ok _) (fl_one eE_ok _) ((allE S.E).length) ?_
  intro p229 cap230 w231 h232
  have h233:sat g _ (Sl 305 6 p229 ((allE S.E).length) cap230 (fl eE (allE S.E))::_):=sI h232
  obtain⟨hn234,hn235⟩:=sl_le h233
  refine⟨kd [rd 0 15 4 2 1 h233],nxG ?_⟩
  have h237:sat g _ (Sl 149 8 (some ⟨r217,0,none⟩) 0 0 (fl eRs [])::_):=sl_of_cl h233.c.t8 rfl om
  refine actG ?_
  refine aG 22 8 (Ot 17) (Ot 21) (.agg #[iV 0,iV 0,uV 0,iV 0,iV 0,iV 0,iV 0,.string (St [])]) (some ⟨r217,0,none⟩) p13 0 0 S.R.length c14 72 underlying212 h237 6 rfl (fl eRs S.R) (gv_sl _ _ _) (fl_len eRs_ok _) (fl_one eRs_ok _) S.R.length ?_
  intro p238 cap239 w240 h241
  have h242:sat g _ (Sl 149 8 p238 S.R.length cap239 (fl eRs S.R)::_):=sI h241
  obtain⟨hn243,hn244⟩:=sl_le h242
  refine⟨kd [],nxG ?_⟩
  refine g0<|nG (fun q_=>pV q_) 214 [pV b220,.slice p229 ((allE S.E).length) cap230,.slice p238 S.R.length cap239] h242 (fun r245 w246 h247=>⟨kd [],?_⟩)
  refine g0 ?_
  have h249:sat g _ (Zr b n S.A (allE S.E) S.R::_):=zr_close lO lE lE h247.x.x.e.x.t9
  have h251:sat g _ (Zr r245 n S.A (allE S.E) S.R::_):=zr_close lO lE lE h249.b.c.d.d.t6
  exact en (pV r245) [] ⟨_,_,rfl,⟨r245,rfl,rfl⟩,h251.a.t3⟩
 refine nG (fun q_=> .slice (some ⟨q_,0,none⟩) 0 0) 305 [] h219 (fun r253 _ h255=>⟨kd [rd 0 15 2 2 1 h255,rd 0 9 2 1 1 h255,rd 0 3 2 0 1 h255],?_⟩)
 refine cG call165 (zcopy_ht s10 n S.A) h255.c.t7 ?_
 rintro v K w258 (⟨b256,rfl,rfl⟩) h259
 have h260:=ap2 h259
 refine⟨kd [rd 0 15 4 2 1 h260,rd 0 9 4 1 1 h260],?_⟩
 have h262:sat g _ (Sl 305 6 (some ⟨r253,0,none⟩) 0 0 (fl eE [])::_):=sl_of_cl h260.b.t8 rfl om
 refine actG ?_
 refine aG 16 6 (Ot 11) (Ot 15) (.agg #[iV 0,iV 0,uV 0,iV 0,iV 0,uV 0]) (some ⟨r253,0,none⟩) p11 0 0 ((allE S.E).length) c12 48 underlying211 h262 5 rfl (fl eE (allE S.E)) (gv_sl _ _ _) (fl_len eE_ok _) (fl_one eE_ok _) ((allE S.E).length) ?_
 intro p263 cap264 w265 h266
 have h267:sat g _ (Sl 305 6 p263 ((allE S.E).length) cap264 (fl eE (allE S.E))::_):=sI h266
 obtain⟨hn268,hn269⟩:=sl_le h267
 refine⟨kd [rd 0 15 4 2 1 h267],nxG ?_⟩
 have h271:sat g _ (Sl 149 8 (some ⟨r217,0,none⟩) 0 0 (fl eRs [])::_):=sl_of_cl h267.c.t8 rfl om
 refine actG ?_
 refine aG 22 8 (Ot 17) (Ot 21) (.agg #[iV 0,iV 0,uV 0,iV 0,iV 0,iV 0,iV 0,.string (St [])]) (some ⟨r217,0,none⟩) p13 0 0 S.R.length c14 72 underlying212 h271 6 rfl (fl eRs S.R) (gv_sl _ _ _) (fl_len eRs_ok _) (fl_one eRs_ok _) S.R.length ?_
 intro p272 cap273 w274 h275
 have h276:sat g _ (Sl 149 8 p272 S.R.length cap273 (fl eRs S.R)::_):=sI h275
 obtain⟨hn277,hn278⟩:=sl_le h276
 refine⟨kd [],nxG ?_⟩
 refine g0<|nG (fun q_=>pV q_) 214 [pV b256,.slice p263 ((allE S.E).length) cap264,.slice p272 S.R.length cap273] h276 (fun r279 w280 h281=>⟨kd [],?_⟩)
 refine g0 ?_
 have h283:sat g _ (Zr b n S.A (allE S.E) S.R::_):=zr_close lO lE lE h281.x.x.e.x.t9
 have h285:sat g _ (Zr r279 n S.A (allE S.E) S.R::_):=zr_close lO lE lE h283.b.c.d.d.t6
 exact en (pV r279) [] ⟨_,_,rfl,⟨r279,rfl,rfl⟩,h285.a.t3⟩
section
abbrev Mv:=Int×Int
theorem cls_ok'{S:Ts}{d:Ky}(h:fndE S d=0):clsS S d=dropS S d:=by
 unfold clsS
 rw[if_pos h]
theorem exp_R(S:Ts)(v:Int):(expS S v).R=S.R:=drops_R
theorem drops_gone{n:Nat}: ∀ {D:List Ky} {S:Ts},Wf n S→(∀d∈D,∃e,gget S.E d.2.1=some e∧e.d=d)→(D.map (·.2.1)).Pairwise (· < ·)→ ∀d∈D,gget (D.foldl dropS S).E d.2.1=none
 | [],_,_,_,_=>fun d hd=>by cases hd
 |d0::D,S,W,h,hp=>fun d hd=>by
  obtain⟨e,h1,h2⟩:=h d0 List.mem_cons_self
  rw[List.map_cons,List.pairwise_cons] at hp
  have W2:=wf_drop W h1 h2
  have hne: ∀d2∈D,d2.2.1≠d0.2.1:=fun d2 hd2=>by
   have:=hp.1 _ (List.mem_map_of_mem (f:=(·.2.1)) hd2)
   omega
  rcases List.mem_cons.1 hd with rfl |h3
  · rw[List.foldl_cons,drops_get hne]
    exact gget_del_self W.nd
  · exact drops_gone W2 (fun d2 hd2=>by
     obtain⟨e2,h4,h5⟩:=h d2 (List.mem_cons_of_mem _ hd2)
     exact⟨e2,by unfold dropS;simp only;rw[gget_del (hne d2 hd2)];exact h4,h5⟩) hp.2 d h3
theorem exp_gone{n:Nat}{S:Ts}(W:Wf n S){v:Int}{d:Ky}(hd:d∈descs S.E v):gget (expS S v).E d.2.1=none:=drops_gone W (fun d2 hd2=>by
 obtain⟨e,h1,h2,_⟩:=descs_at W hd2
 exact⟨e,h1,h2⟩) (descs_lt W v) d hd
theorem exp_get{n:Nat}{S:Ts}(W:Wf n S){v k:Int}{e:Ety}:gget (expS S v).E k=some e↔gget S.E k=some e∧e.num≠v:=by
 by_cases hk: ∃d∈descs S.E v,d.2.1=k
 · obtain⟨d,hd,rfl⟩:=hk
   rw[exp_gone W hd]
   obtain⟨e2,h1,h2,h3⟩:=descs_at W hd
   rw[h1]
   constructor
   · intro h;cases h
   · rintro⟨h,h4⟩
     obtain rfl:=Option.some.inj h
     exact absurd h3 h4
 · have hk': ∀d∈descs S.E v,d.2.1≠k:=fun d hd h=>hk ⟨d,hd,h⟩
   unfold expS
   rw[drops_get hk']
   constructor
   · intro h
     refine⟨h,fun h2=> ?_⟩
     exact hk' e.d (mem_descs.2 ⟨e,wf_all W h,h2,rfl⟩) (W.ent k e h).2.1
   · exact fun h=>h.1
theorem exp_descs{n:Nat}{S:Ts}(W:Wf n S)(v:Int):(descs (expS S v).E v).length=0:=by
 cases h:descs (expS S v).E v with
 |nil=>rfl
 |cons d D=>
  have hm:d∈descs (expS S v).E v:=by rw[h];exact List.mem_cons_self
  obtain⟨e,h1,h2,h3⟩:=descs_at (wf_exp W v) hm
  exact absurd h3 ((exp_get W).1 h1).2
abbrev Tp:=Ts×List Ky
section
variable {p : Tp} {i : Nat} {m : Mv} {d : Ky}
end
end
section
def GenI(A:List Sl2)(al:List Ky):Prop:= ∀d∈al,goodD d∧d.2.2≤4294967295∧ ∃(q:Nat) (s:Sl2),d.2.1=(q:Int)∧A[q]? =some s∧(d.2.2<s.2∨(d.2.2=s.2∧s.1≠0))
def LvI(S:Ts):Prop:= ∀(q:Nat) (r:Rs),S.R[q]? =some r→(r.st=1↔0<(descs S.E ((q:Int)+1)).length)
structure MInv (n:Nat) (p:Tp):Prop where
 W:Wf n p.1
 nd:p.2.Nodup
 gen:GenI p.1.A p.2
 ent: ∀(k:Int) (e:Ety),gget p.1.E k=some e→e.d∈p.2
 lv:LvI p.1
theorem dpos{n:Nat}{S:Ts}(W:Wf n S){v:Int}:0<(descs S.E v).length↔ ∃(k:Int) (e:Ety),gget S.E k=some e∧e.num=v:=by
 constructor
 · intro h
   obtain⟨e,h1,_,h3⟩:=descs_at W (List.getElem_mem h)
   exact⟨_,e,h1,h3⟩
 · rintro⟨k,e,h1,h2⟩
   exact List.length_pos_of_mem (mem_descs.2 ⟨e,wf_all W h1,h2,rfl⟩)
section
variable {L : List Ky} {k : Nat} {x y : Ky} {b : Bool}
end
section
variable {n : Nat} {S : Ts} {v : Int}
theorem wf_dropK(W:Wf n S)(k:Nat):Wf n (dropK S v k):=by
 refine wf_drops W (fun d hd=> ?_) ?_
 · obtain⟨e,h1,h2,_⟩:=descs_at W (List.mem_of_mem_take hd)
   exact⟨e,h1,h2⟩
 · rw[List.map_take]
   exact(descs_lt W v).sublist (List.take_sublist _ _)
theorem close_at(W:Wf n S){k:Nat}{x:Ky}(hx:(descs S.E v)[k]? =some x):fndE (dropK S v k) (x.1,x.2.1,x.2.2)=0∧(fndX (dropK S v k) (x.1,x.2.1,x.2.2)).num=v∧clsS (dropK S v k) (x.1,x.2.1,x.2.2)=dropK S v (k+1)∧clsL (dropK S v k) (x.1,x.2.1,x.2.2)=decide (k+1=(descs S.E v).length):=by
 obtain⟨e,h1,h2,h3⟩:=descs_at W (List.mem_of_getElem? hx)
 obtain⟨e',h4,h5⟩:=dropK_at W hx
 have he:e'=e:=by
  have h6:=h4
  unfold dropK at h6
  have:gget S.E x.2.1=gget (dropK S v k).E x.2.1∨gget (dropK S v k).E x.2.1=none:=by
   by_cases hm: ∃d∈(descs S.E v).take k,d.2.1=x.2.1
   · obtain⟨d,hd,hdx⟩:=hm
     refine .inr ?_
     rw[←hdx]
     exact drops_gone W (fun d2 hd2=>by
      obtain⟨e2,q1,q2,_⟩:=descs_at W (List.mem_of_mem_take hd2)
      exact⟨e2,q1,q2⟩) (by rw[List.map_take];exact(descs_lt W v).sublist (List.take_sublist _ _)) d hd
   · refine .inl (drops_get fun d hd hdx=>hm ⟨d,hd,hdx⟩).symm
  rcases this with h7|h7
  · rw[h4,h1] at h7
    exact(Option.some.inj h7).symm
  · rw[h4] at h7
    cases h7
 subst he
 have hg:=wf_good W h1
 rw[h2] at hg
 have hf:=fndX_ok (S:=dropK S v k) (d:=x) hg h4 h5
 have hc:clsS (dropK S v k) x=dropK S v (k+1):=by
  rw[cls_ok' hf.1]
  exact dropK_go hx
 refine⟨hf.1,?_,hc,?_⟩
 · show (fndX (dropK S v k) x).num=v
   rw[hf.2]
   exact h3
 · show clsL (dropK S v k) x=_
   unfold clsL
   rw[hf.2,h3,dropK_go hx,decide_eq_decide]
   have hlt:=(List.getElem?_eq_some_iff.1 hx).1
   constructor
   · rintro⟨_,h8⟩
     by_cases hk:k+1=(descs S.E v).length
     · exact hk
     · exfalso
       have hx2:(descs S.E v)[k+1]? =some (descs S.E v)[k+1]:=List.getElem?_eq_getElem om
       obtain⟨e2,q1,q2,q3⟩:=descs_at W (List.mem_of_getElem? hx2)
       obtain⟨e3,q4,q5⟩:=dropK_at W hx2
       have hp:0<(descs (dropK S v (k+1)).E v).length:=by
        rw[dpos (wf_dropK W (k+1))]
        refine⟨((descs S.E v)[k+1]).2.1,e2,?_,q3⟩
        unfold dropK
        rw[drops_get,q1]
        intro d hd
        obtain⟨j,hj⟩:=List.getElem?_of_mem hd
        have hjk:j<k+1:=by
         have:=(List.getElem?_eq_some_iff.1 hj).1
         rw[List.length_take] at this
         omega
        rw[List.getElem?_take_of_lt hjk] at hj
        have hpw:=List.pairwise_iff_getElem.1 (descs_lt W v) j (k+1) (by rw[List.length_map];exact(List.getElem?_eq_some_iff.1 hj).1) (by rw[List.length_map];exact(List.getElem?_eq_some_iff.1 hx2).1) hjk
        rw[List.getElem_map,List.getElem_map,(List.getElem?_eq_some_iff.1 hj).2] at hpw
        omega
       omega
   · intro hk
     refine⟨hf.1,?_⟩
     rw[dropK_all S v hk]
     exact exp_descs W v
end
section
variable {α : Type} {L : List α} {k : Nat} {x : α} {p : α → Bool} {b : Bool}
end
end
theorem del_allk{E:Tm}(hk:Kyd E)(hn:KN E){j i:Nat}{k:Int}{e:Ety}(hjk:(j:Int)=k)(hj:j<256)(hg:gget E k=some e)(hi:(allE E)[i]? =some e):(allE E).take i++(allE E).drop (i+1)=allE (gdel E k):=by
 subst hjk
 exact del_all hk hn hj hg hi
theorem zcls_ht(b n:Nat)(S:Ts)(hW:Wf n S)(d0 d1 d2:Int)(hz:0≤d2):HQ 159 [pV b,.agg #[iV d0,iV d1,uV d2]] [Zr b n S.A (allE S.E) S.R] (.tuple #[iV ((fndX S (d0,d1,d2)).num),.bool (clsL S (d0,d1,d2)),iV (fndE S (d0,d1,d2))]) [Zr b n ((clsS S (d0,d1,d2)).A) (allE (clsS S (d0,d1,d2)).E) ((clsS S (d0,d1,d2)).R)]:=by
 refine hiS func159 ntmps159 fun g w0 R h0=>g0<|nP 144 [iV d0,iV d1,uV d2] h0 (fun r10 _ h12=> ?_)
 refine go [rd 1 1 0 0 3 h12] ?_
 by_cases c13:(fndE S (d0,d1,d2))=0
 ·
  refine cP call215 (by have h_:=wfind_ht b n S hW d0 d1 d2 om;rw[show fndE S (d0,d1,d2)=0 from by omega] at h_;exact h_) h12.a.t3 ?_
  rintro v K _ (⟨i14,hi15,rfl,rfl⟩) h18
  have h19:=ap1 h18
  have hb20:=(List.getElem?_eq_some_iff.1 (hi15 rfl)).1
  obtain⟨s21,p22,c23,p24,c25,hq26,h27⟩:=zr_open h19
  have hb28:=hq26.1
  have hb29:=hq26.2
  have h30:=h27.b.t6
  obtain⟨hc31,hc32⟩:=sl_le h30
  have h33:=h30.b.b.t6
  obtain⟨b34,hp35⟩:=sl_ptr0 (j:=2) h33 rfl om
  refine go [rd 4 3 0 1 1 h33,.s 4 5]<|lwP (.pointer (some ⟨b34,i14*6,none⟩)) (liP (Ot 24) (Ot 25) p22 b34 0 (i14:Int) ((allE S.E).length) c23 underlying211 6 i14 hp35 (i14*6))<|go [.r 4 7 b34 (i14*6+3) [iV ((fndX S (d0,d1,d2)).num)] ⟨gvc 2 h33 rfl hp35 eE_ok 3 (iV ((fndX S (d0,d1,d2)).num)) (hi15 rfl) (i14*6+3),trivial⟩]<|dw (fls [0,1,2,3,4,5,6,7,8] (Tr.an 9 Tr.nil)) h33 fun _ h37=> ?_
  obtain⟨hs1_,hs2_,hs3_,hs4_,hs5_⟩:=fnd_slot hW (d:=(d0,d1,d2)) om
  simp only at hs1_ hs2_ hs3_ hs4_
  obtain⟨x_,hx_,hx1_,hx2_⟩: ∃x:Sl2,S.A[d1.toNat]? =some x∧x.1=1∧x.2=d2:=⟨_,hs1_,rfl,rfl⟩
  have h38:=h37.a.t6
  refine go [rd 5 3 0 0 1 h37,rd 5 5 4 1 1 h37,rd 5 7 4 2 1 h37]<|cw1 call216 (zgive_ht s21 n S.A d1.toNat x_ hx_ d1 d2 om) h38 fun _ h40=>⟨kd [],?_⟩
  refine g0<|dw (fls [0,2,3,4,5,6,7,9,10,11,12,13,14,15] (Tr.an 1 (Tr.an 8 (Tr.an 16 (fls [17,18] (Tr.an 19 Tr.nil)))))) h40 fun _ h42=>go [rd 6 5 1 1 1 h42,.s 6 7]<|lw (.slice p22 i14 c23) (fun _=>law_sliceTo (x:=Ot 44) (y:=Ot 45) (p:=p22) (m:=((allE S.E).length)) (c:=c23) (z:=(i14:Int)) kr underlying211 kr kr kr i14 om om _) ?_
  obtain⟨q43,hq44⟩: ∃q:Option Addr,q=if c23=i14+1 then p22 else p22.map (fun a:Addr=>a.add ((i14+1)*6)):=⟨_,rfl⟩
  refine go [rd 6 12 1 1 1 h42,.v 6 14 (oIr ((i14:Int)+1)),.s 6 15]<|lw (.slice q43 (((allE S.E).length)-i14-1) (c23-i14-1)) (fun _=>law_sliceFrom (x:=Ot 51) (y:=Ot 53) (p:=p22) (m:=((allE S.E).length)) (c:=c23) (sz:=6) (z:=((i14:Int)+1)) kr underlying211 kr kr kr (i14+1) om om hq44 _)<|nG (fun q_=> .slice (some ⟨q_,0,none⟩) 0 0) 305 [] h42 (fun r45 w46 h47=>⟨kd [rd 0 12 2 1 1 h47,rd 0 5 2 1 1 h47],?_⟩)
  have h48:sat g _ (Sl 305 6 (some ⟨r45,0,none⟩) 0 0 (fl eE [])::_):=sl_of_cl h47 rfl om
  refine actG ?_
  refine aG 47 6 (Ot 40) (Ot 46) (.agg #[iV 0,iV 0,uV 0,iV 0,iV 0,uV 0]) (some ⟨r45,0,none⟩) p22 0 0 i14 c23 48 underlying211 h48 3 rfl (fl eE ((allE S.E).take i14)) (gv_list eE_ok (gv_sl _ _ _) om) (by rw[fl_len eE_ok,show ((allE S.E).take i14).length=i14 from (by rw[List.length_take];omega)]) (fl_one eE_ok _) i14 ?_
  intro p49 cap50 w51 h52
  have h53:sat g _ (Sl 305 6 p49 i14 cap50 (fl eE ((allE S.E).take i14))::_):=sI h52
  obtain⟨hn54,hn55⟩:=sl_le h53
  refine⟨kd [rd 0 12 2 1 1 h53],nxG ?_⟩
  refine actG ?_
  refine aG 55 6 (Ot 47) (Ot 54) (.agg #[iV 0,iV 0,uV 0,iV 0,iV 0,uV 0]) p49 q43 i14 cap50 (((allE S.E).length)-i14-1) (c23-i14-1) 48 underlying211 h53 3 rfl (fl eE ((allE S.E).drop (i14+1))) (gv_from eE_ok (gv_sl _ _ _) rfl om om hq44) (by rw[fl_len eE_ok,show ((allE S.E).drop (i14+1)).length=((allE S.E).length)-i14-1 from List.length_drop]) (fl_one eE_ok _) (((allE S.E).length)-1) ?_
  intro p56 cap57 w58 h59
  have h60:sat g _ (Sl 305 6 p56 (((allE S.E).length)-1) cap57 (fl eE (((allE S.E).take i14)++((allE S.E).drop (i14+1))))::_):=sJ h59
  obtain⟨hn61,hn62⟩:=sl_le h60
  refine⟨kd [],nxG ?_⟩
  have h63:=h60.b.t7
  refine g0<|sG [(1,.slice p56 (((allE S.E).length)-1) cap57)] [pV s21,.slice p56 (((allE S.E).length)-1) cap57,.slice p24 S.R.length c25] h63 fun w64 h65=>⟨kd [],?_⟩
  have h67:sat g _ (Sl 305 6 p56 (((allE S.E).length)-1) cap57 (fl eE (allE (gdel S.E d1)))::_):=sat_imp h65.a.t7 (fun _ hh_=>by rw[show ((((allE S.E).take i14)++((allE S.E).drop (i14+1))):List Ety)=(allE (gdel S.E d1)) from (del_allk (wf_kyd hW) hW.nd hs3_ hs2_ hs4_ (hi15 rfl))] at hh_;exact hh_)
  have hl68:=fl_n eE_ok dc h67
  have h70:sat g _ (Zr b n (giveA S.A d1.toNat d2) (allE (gdel S.E d1)) S.R::_):=zr_close om (by rw[hl68]) lE h67.d.a.c.c.t7
  have h71:sat g w64 [Zr b n ((dropS S (d0,d1,d2)).A) (allE (dropS S (d0,d1,d2)).E) ((dropS S (d0,d1,d2)).R),Sl 305 6 p22 ((allE S.E).length) c23 (fl eE (allE S.E)),Cl r10 [iV d0,iV d1,uV d2] 144,R]:=h70
  refine g0<|cP call158 (zdsc_ht b n (dropS S (d0,d1,d2)) (wf_drop hW hs4_ hs5_) ((fndX S (d0,d1,d2)).num)) h71 ?_
  rintro v K _ (⟨p72,c73,rfl,rfl⟩) h75
  have h76:=ap2 h75
  refine go [.s 8 3] ?_
  by_cases c77:(((descs (dropS S (d0,d1,d2)).E ((fndX S (d0,d1,d2)).num)).length:Nat):Int)=0
  ·
   refine go [.v 8 3 (qeT _ _ c77)] ?_
   exact en (.tuple #[iV ((fndX S (d0,d1,d2)).num),.bool true,iV 0]) [] ⟨_,[Zr b n ((dropS S (d0,d1,d2)).A) (allE (dropS S (d0,d1,d2)).E) ((dropS S (d0,d1,d2)).R)],rfl,⟨by rw[show fndE S (d0,d1,d2)=0 from by omega,show clsL S (d0,d1,d2)=true from decide_eq_true om],by rw[show clsS S (d0,d1,d2)=dropS S (d0,d1,d2) from if_pos om]⟩,h76.d.a.t2⟩
  refine go [.v 8 3 (qeF _ _ c77)] ?_
  exact en (.tuple #[iV ((fndX S (d0,d1,d2)).num),.bool false,iV 0]) [] ⟨_,[Zr b n ((dropS S (d0,d1,d2)).A) (allE (dropS S (d0,d1,d2)).E) ((dropS S (d0,d1,d2)).R)],rfl,⟨by rw[show fndE S (d0,d1,d2)=0 from by omega,show clsL S (d0,d1,d2)=false from decide_eq_false om],by rw[show clsS S (d0,d1,d2)=dropS S (d0,d1,d2) from if_pos om]⟩,h76.d.a.t2⟩
 refine cP call215 (wfind_ht b n S hW d0 d1 d2 om) h12.a.t3 ?_
 rintro v K _ (⟨i80,hi81,rfl,rfl⟩) h84
 have h85:=ap1 h84
 refine go [.v 2 1 (qnT (fndE S (d0,d1,d2)) 0)] ?_
 exact en (.tuple #[iV 0,.bool false,iV (fndE S (d0,d1,d2))]) [] ⟨_,[Zr b n S.A (allE S.E) S.R],rfl,⟨by rw[show fndX S (d0,d1,d2)=noE from if_neg om,(cls_bad (S:=S) (d:=(d0,d1,d2)) rfl om).2];rfl,by rw[(cls_bad (S:=S) (d:=(d0,d1,d2)) rfl om).1]⟩,h85.B.t2⟩
theorem qz11e72_eql_t{n:Nat}{l:Fr}{o:Oper}{x y:Operand}(a0 a1 a2 c0 c1 c2:Int)(ho:o.op= .binOp .eql 72 x y 72)(hx:fe n l x= .agg #[.int .i64 a0,.int .i64 a1,.int .u32 a2])(hy:fe n l y= .agg #[.int .i64 c0,.int .i64 c1,.int .u32 c2])(h:a0=c0∧a1=c1∧a2=c2)(w:World):(execOp (fe n l) o).run prog w= .ok (.value (.bool true)) w:=by
 obtain⟨rfl,rfl,rfl⟩:=h
 simp[execOp,ho,hx,hy,go_sem]
theorem qz11e72_eql_f{n:Nat}{l:Fr}{o:Oper}{x y:Operand}(a0 a1 a2 c0 c1 c2:Int)(ho:o.op= .binOp .eql 72 x y 72)(hx:fe n l x= .agg #[.int .i64 a0,.int .i64 a1,.int .u32 a2])(hy:fe n l y= .agg #[.int .i64 c0,.int .i64 c1,.int .u32 c2])(h: ¬(a0=c0∧a1=c1∧a2=c2))(w:World):(execOp (fe n l) o).run prog w= .ok (.value (.bool false)) w:=by
 by_cases h0:a0=c0
 · skip
   by_cases h1:a1=c1
   · skip
     by_cases h2:a2=c2
     · exact absurd ⟨h0,h1,h2⟩ h
     · simp[execOp,ho,hx,hy,go_sem,h0,h1,h2]
   · simp[execOp,ho,hx,hy,go_sem,h0,h1]
 · simp[execOp,ho,hx,hy,go_sem,h0]
theorem newE_good{x y z:Int}{L:List UInt8}(h:1≤x∧x≤3∧0≤y∧y≤63∧1≤z):newE (x,y,z) L=tagE L:=if_pos ⟨h,.inl ⟨rfl,rfl,rfl,rfl⟩⟩
theorem newE_no{x y z:Int}{L:List UInt8}(h: ¬(1≤x∧x≤3∧0≤y∧y≤63∧1≤z)):newE (x,y,z) L=2:=if_neg fun q=>h q.1
theorem zopn_ht(b n:Nat)(S:Ts)(hW:Wf n S)(x y z:Int)(L:List UInt8)(u0 u1:Int)(hz0:0≤z)(hz1:z≤4294967295)(hm:L.length≤100000)(hu:0≤u1):HQ 71 [pV b,.agg #[iV x,iV y,uV z],.string (St L),.agg #[iV u0,uV u1]] [Zr b n S.A (allE S.E) S.R] (.tuple #[.agg #[iV ((opnD S (x,y,z) L (u0,u1)).1),iV ((opnD S (x,y,z) L (u0,u1)).2.1),uV ((opnD S (x,y,z) L (u0,u1)).2.2)],iV (topE S (x,y,z) L (u0,u1))]) [Zr b n ((opnS S (x,y,z) L (u0,u1)).A) (allE (opnS S (x,y,z) L (u0,u1)).E) ((opnS S (x,y,z) L (u0,u1)).R)]:=by
 refine hiS func71 ntmps71 fun g w0 R h0=>g0<|nP 72 [iV x,iV y,uV z] h0 (fun r10 _ h12=> ?_)
 refine nP 148 [iV u0,uV u1] h12 (fun r13 _ h15=> ?_)
 refine nP 144 [iV 0,iV 0,uV 0] h15 (fun r16 _ h18=> ?_)
 obtain⟨s20,p21,c22,p23,c24,hq25,h26⟩:=zr_open h18.c.t5
 have hb27:=hq25.1
 have hb28:=hq25.2
 refine g0<|cl1 call148 (rvalid_cl b s20 p21 ((allE S.E).length) c22 p23 S.R.length c24) h26 fun _ h30=>go [rd 3 0 6 0 3 h30] ?_
 by_cases c31:1≤x
 ·
  by_cases c32:x≤3;rotate_left
  ·
   refine cl0 call149 (zrn_no x y z L om om om om) h30 fun _ h300=>g0<|nP 149 [iV 0,iV 0,uV 0,iV 0,iV 0,iV 0,iV 0,.string (St [])] h300 (fun r301 _ h303=> ?_)
   refine sA [iV 0,iV 0,uV 0,iV 0,iV 0,iV 0,iV 0,.string (St [])] h303 fun _ h305=> ?_
   have h306:=h305.e.t9
   refine g0<|sA [iV 0,iV 0,uV 0] h306 fun w307 h308=>g0 ?_
   have h310:sat g _ (Zr b n S.A (allE S.E) S.R::_):=zr_close lO lE lE h308.e.e.e.e.t9
   have hN_:newE (x,y,z) L=2:=newE_no om
   exact en (.tuple #[.agg #[iV 0,iV 0,uV 0],iV 2]) [rd 0 0 0 0 3 h308] ⟨_,[Zr b n S.A (allE S.E) S.R],rfl,(have hE_:topE S (x,y,z) L (u0,u1)=2:=(by unfold topE;rw[hN_,if_pos dc]);⟨by rw[hE_,(opn_bad hE_ dc).2]<;>rfl,by rw[(opn_bad hE_ dc).1]⟩),h310.e.a.t2⟩
  by_cases c33:0≤y;rotate_left
  ·
   refine cl0 call149 (zrn_no x y z L om om om om) h30 fun _ h287=>g0<|nP 149 [iV 0,iV 0,uV 0,iV 0,iV 0,iV 0,iV 0,.string (St [])] h287 (fun r288 _ h290=> ?_)
   refine sA [iV 0,iV 0,uV 0,iV 0,iV 0,iV 0,iV 0,.string (St [])] h290 fun _ h292=> ?_
   have h293:=h292.e.t9
   refine g0<|sA [iV 0,iV 0,uV 0] h293 fun w294 h295=>g0 ?_
   have h297:sat g _ (Zr b n S.A (allE S.E) S.R::_):=zr_close lO lE lE h295.e.e.e.e.t9
   have hN_:newE (x,y,z) L=2:=newE_no om
   exact en (.tuple #[.agg #[iV 0,iV 0,uV 0],iV 2]) [rd 0 0 0 0 3 h295] ⟨_,[Zr b n S.A (allE S.E) S.R],rfl,(have hE_:topE S (x,y,z) L (u0,u1)=2:=(by unfold topE;rw[hN_,if_pos dc]);⟨by rw[hE_,(opn_bad hE_ dc).2]<;>rfl,by rw[(opn_bad hE_ dc).1]⟩),h297.e.a.t2⟩
  by_cases c34:y≤63;rotate_left
  ·
   refine cl0 call149 (zrn_no x y z L om om om om) h30 fun _ h274=>g0<|nP 149 [iV 0,iV 0,uV 0,iV 0,iV 0,iV 0,iV 0,.string (St [])] h274 (fun r275 _ h277=> ?_)
   refine sA [iV 0,iV 0,uV 0,iV 0,iV 0,iV 0,iV 0,.string (St [])] h277 fun _ h279=> ?_
   have h280:=h279.e.t9
   refine g0<|sA [iV 0,iV 0,uV 0] h280 fun w281 h282=>g0 ?_
   have h284:sat g _ (Zr b n S.A (allE S.E) S.R::_):=zr_close lO lE lE h282.e.e.e.e.t9
   have hN_:newE (x,y,z) L=2:=newE_no om
   exact en (.tuple #[.agg #[iV 0,iV 0,uV 0],iV 2]) [rd 0 0 0 0 3 h282] ⟨_,[Zr b n S.A (allE S.E) S.R],rfl,(have hE_:topE S (x,y,z) L (u0,u1)=2:=(by unfold topE;rw[hN_,if_pos dc]);⟨by rw[hE_,(opn_bad hE_ dc).2]<;>rfl,by rw[(opn_bad hE_ dc).1]⟩),h284.e.a.t2⟩
  by_cases c35:1≤z;rotate_left
  ·
   refine cl0 call149 (zrn_no x y z L om om om om) h30 fun _ h261=>g0<|nP 149 [iV 0,iV 0,uV 0,iV 0,iV 0,iV 0,iV 0,.string (St [])] h261 (fun r262 _ h264=> ?_)
   refine sA [iV 0,iV 0,uV 0,iV 0,iV 0,iV 0,iV 0,.string (St [])] h264 fun _ h266=> ?_
   have h267:=h266.e.t9
   refine g0<|sA [iV 0,iV 0,uV 0] h267 fun w268 h269=>g0 ?_
   have h271:sat g _ (Zr b n S.A (allE S.E) S.R::_):=zr_close lO lE lE h269.e.e.e.e.t9
   have hN_:newE (x,y,z) L=2:=newE_no om
   exact en (.tuple #[.agg #[iV 0,iV 0,uV 0],iV 2]) [rd 0 0 0 0 3 h269] ⟨_,[Zr b n S.A (allE S.E) S.R],rfl,(have hE_:topE S (x,y,z) L (u0,u1)=2:=(by unfold topE;rw[hN_,if_pos dc]);⟨by rw[hE_,(opn_bad hE_ dc).2]<;>rfl,by rw[(opn_bad hE_ dc).1]⟩),h271.e.a.t2⟩
  by_cases c36:(tagE L)=0;rotate_left
  ·
   refine cl0 call149 (zrn_tag x y z L om om om om om) h30 fun _ h248=>g0<|nP 149 [iV 0,iV 0,uV 0,iV 0,iV 0,iV 0,iV 0,.string (St [])] h248 (fun r249 _ h251=> ?_)
   refine sA [iV 0,iV 0,uV 0,iV 0,iV 0,iV 0,iV 0,.string (St [])] h251 fun _ h253=> ?_
   have h254:=h253.e.t9
   refine g0<|sA [iV 0,iV 0,uV 0] h254 fun w255 h256=>g0 ?_
   have h258:sat g _ (Zr b n S.A (allE S.E) S.R::_):=zr_close lO lE lE h256.e.e.e.e.t9
   have hN_:newE (x,y,z) L=16:=(newE_good om).trans (show tagE L=16 from by have h2_:=tagE_or L;omega)
   exact en (.tuple #[.agg #[iV 0,iV 0,uV 0],iV 16]) [rd 0 0 0 0 3 h256] ⟨_,[Zr b n S.A (allE S.E) S.R],rfl,(have hE_:topE S (x,y,z) L (u0,u1)=16:=(by unfold topE;rw[hN_,if_pos dc]);⟨by rw[hE_,(opn_bad hE_ dc).2]<;>rfl,by rw[(opn_bad hE_ dc).1]⟩),h258.e.a.t2⟩
  refine cl0 call149 (zrn_ok x y z L om om om om om) h30 fun _ h38=>g0<|nP 149 [iV 0,iV 0,uV 0,iV 0,iV 0,iV 0,iV 0,.string (St [])] h38 (fun r39 _ h41=> ?_)
  refine sA [iV x,iV y,uV z,iV 1,iV 0,iV 0,iV 0,.string (St L)] h41 fun _ h43=>go [rd 6 0 6 0 2 h43] ?_
  by_cases c44:0≤u0;rotate_left
  ·
   refine cl0 call150 (zobj_f u0 u1 om om) h43 fun _ h240=> ?_
   have h241:=h240.e.t9
   refine g0<|sA [iV 0,iV 0,uV 0] h241 fun w242 h243=>g0 ?_
   have h245:sat g _ (Zr b n S.A (allE S.E) S.R::_):=zr_close lO lE lE h243.e.e.e.e.t9
   have hN_:newE (x,y,z) L=0:=(newE_good om).trans (show tagE L=0 from by omega)
   exact en (.tuple #[.agg #[iV 0,iV 0,uV 0],iV 2]) [rd 0 0 0 0 3 h243] ⟨_,[Zr b n S.A (allE S.E) S.R],rfl,(have hE_:topE S (x,y,z) L (u0,u1)=2:=(by unfold topE;rw[if_neg (fun h_=>h_ hN_),if_pos (show ¬objH (u0,u1) from by unfold objH;simp only;omega)]);⟨by rw[hE_,(opn_bad hE_ dc).2]<;>rfl,by rw[(opn_bad hE_ dc).1]⟩),h245.e.a.t2⟩
  by_cases c45:u0≤255;rotate_left
  ·
   refine cl0 call150 (zobj_f u0 u1 om om) h43 fun _ h232=> ?_
   have h233:=h232.e.t9
   refine g0<|sA [iV 0,iV 0,uV 0] h233 fun w234 h235=>g0 ?_
   have h237:sat g _ (Zr b n S.A (allE S.E) S.R::_):=zr_close lO lE lE h235.e.e.e.e.t9
   have hN_:newE (x,y,z) L=0:=(newE_good om).trans (show tagE L=0 from by omega)
   exact en (.tuple #[.agg #[iV 0,iV 0,uV 0],iV 2]) [rd 0 0 0 0 3 h235] ⟨_,[Zr b n S.A (allE S.E) S.R],rfl,(have hE_:topE S (x,y,z) L (u0,u1)=2:=(by unfold topE;rw[if_neg (fun h_=>h_ hN_),if_pos (show ¬objH (u0,u1) from by unfold objH;simp only;omega)]);⟨by rw[hE_,(opn_bad hE_ dc).2]<;>rfl,by rw[(opn_bad hE_ dc).1]⟩),h237.e.a.t2⟩
  by_cases c46:1≤u1;rotate_left
  ·
   refine cl0 call150 (zobj_f u0 u1 om om) h43 fun _ h224=> ?_
   have h225:=h224.e.t9
   refine g0<|sA [iV 0,iV 0,uV 0] h225 fun w226 h227=>g0 ?_
   have h229:sat g _ (Zr b n S.A (allE S.E) S.R::_):=zr_close lO lE lE h227.e.e.e.e.t9
   have hN_:newE (x,y,z) L=0:=(newE_good om).trans (show tagE L=0 from by omega)
   exact en (.tuple #[.agg #[iV 0,iV 0,uV 0],iV 2]) [rd 0 0 0 0 3 h227] ⟨_,[Zr b n S.A (allE S.E) S.R],rfl,(have hE_:topE S (x,y,z) L (u0,u1)=2:=(by unfold topE;rw[if_neg (fun h_=>h_ hN_),if_pos (show ¬objH (u0,u1) from by unfold objH;simp only;omega)]);⟨by rw[hE_,(opn_bad hE_ dc).2]<;>rfl,by rw[(opn_bad hE_ dc).1]⟩),h229.e.a.t2⟩
  refine cl0 call150 (zobj_t u0 u1 om) h43 fun _ h48=>g0 ?_
  refine lpS (fun mz_ a w=> ∃k:Nat,∃lr:Fr,mz_=S.R.length-k∧(k≤S.R.length)∧((S.R.take k).any (fun r=>decide (r.out=(x,y,z)))=false)∧a=mk 90 (([(0,pV b),(5,pV r10),(7,pV r13),(8,pV r16),(10,pV r39),(12,iV (k:Int))]:Fr)++lr)∧sat g w [Cl r39 [iV x,iV y,uV z,iV 1,iV 0,iV 0,iV 0,.string (St L)] 149,Cl b [pV s20,.slice p21 ((allE S.E).length) c22,.slice p23 S.R.length c24] 214,Zs s20 n S.A,Sl 305 6 p21 ((allE S.E).length) c22 (fl eE (allE S.E)),Sl 149 8 p23 S.R.length c24 (fl eRs S.R),Cl r16 [iV 0,iV 0,uV 0] 144,Cl r13 [iV u0,uV u1] 148,Cl r10 [iV x,iV y,uV z] 72,R]) (S.R.length-0) ⟨0,_,rfl,om,rfl,(lvF [.k 0 (pV b),.k 5 (pV r10),.k 7 (pV r13),.k 8 (pV r16),.k 10 (pV r39),.o 12 (oJ .i64 0 (0:Int))]),h48⟩ ?_
  rintro m50 a51 w52 ⟨k,lr49,rfl,hk_,hb_,rfl,h53⟩
  refine ga<|go [rd 9 4 1 2 1 h53,.s 9 6] ?_
  by_cases c54:(k:Int)<(S.R.length:Int)
  ·
   refine go [.v 9 6 (oT _ c54)]<|dw (fls [0,1,2,3,4,5,6,7,8,9] Tr.nil) h53 fun _ h56=> ?_
   obtain⟨b57,hp58⟩:=sl_ptr0 (j:=4) h56 rfl om
   refine go [rd 11 3 1 2 1 h56,.s 11 5]<|lw (.pointer (some ⟨b57,k*8,none⟩)) (fun _=>liP (Ot 43) (Ot 44) p23 b57 0 (k:Int) S.R.length c24 underlying212 8 k hp58 (k*8)) ?_
   obtain⟨x59,hx60⟩:=gX S.R k om
   refine go [.r 11 7 b57 (k*8) [iV x59.out.1,iV x59.out.2.1,uV x59.out.2.2] ⟨gvc 4 h56 rfl hp58 eRs_ok 0 (iV x59.out.1) hx60 (k*8),gvc 4 h56 rfl hp58 eRs_ok 1 (iV x59.out.2.1) hx60 (k*8+1),gvc 4 h56 rfl hp58 eRs_ok 2 (uV x59.out.2.2) hx60 (k*8+2),trivial⟩,rd 11 8 7 0 3 h56,.s 11 9] ?_
   by_cases c61:x59.out.1=x
   ·
    by_cases c62:x59.out.2.1=y
    ·
     by_cases c63:x59.out.2.2=z
     ·
      refine lw (.bool true) (fun _=>qz11e72_eql_t (x:=Ot 47) (y:=Ot 48) x59.out.1 x59.out.2.1 x59.out.2.2 x y z kr kr kr ⟨om,om,om⟩ _) ?_
      have h64:=h56.e.t9
      refine g0<|sA [iV 0,iV 0,uV 0] h64 fun w65 h66=>g0<|up<|g0 ?_
      have h68:sat g _ (Zr b n S.A (allE S.E) S.R::_):=zr_close lO lE lE h66.e.e.e.e.t9
      have hN_:newE (x,y,z) L=0:=(newE_good om).trans (show tagE L=0 from by omega)
      have hO_:hasO S.R (x,y,z):=of_decide_eq_true ((hasP_eq S.R (x,y,z)).symm.trans (any_hit hx60 (decide_eq_true (zky_eq om))))
      exact en (.tuple #[.agg #[iV 0,iV 0,uV 0],iV 6]) [rd 0 0 0 0 3 h66] ⟨_,[Zr b n S.A (allE S.E) S.R],rfl,(have hE_:topE S (x,y,z) L (u0,u1)=6:=(by unfold topE;rw[if_neg (fun h_=>h_ hN_),if_neg (fun h_=>h_ (show objH (u0,u1) from by unfold objH;simp only;omega)),if_pos (.inl hO_)]);⟨by rw[hE_,(opn_bad hE_ dc).2]<;>rfl,by rw[(opn_bad hE_ dc).1]⟩),h68.e.a.t2⟩
     refine lw (.bool false) (fun _=>qz11e72_eql_f (x:=Ot 47) (y:=Ot 48) x59.out.1 x59.out.2.1 x59.out.2.2 x y z kr kr kr om _)<|go [.v 10 1 (oIr ((k:Int)+1))] ?_
     exact enN (S.R.length-(k+1)) ⟨(k+1),_,rfl,om,(any_step hb_ hx60 (decide_eq_false fun he_=>by have h_:=ky_of he_;omega)),(lvF [.k 0 (pV b),.k 5 (pV r10),.k 7 (pV r13),.k 8 (pV r16),.k 10 (pV r39),.o 12 (oJ .i64 ((k:Int)+1) (((k+1):Nat):Int))]),h56⟩
    refine lw (.bool false) (fun _=>qz11e72_eql_f (x:=Ot 47) (y:=Ot 48) x59.out.1 x59.out.2.1 x59.out.2.2 x y z kr kr kr om _)<|go [.v 10 1 (oIr ((k:Int)+1))] ?_
    exact enN (S.R.length-(k+1)) ⟨(k+1),_,rfl,om,(any_step hb_ hx60 (decide_eq_false fun he_=>by have h_:=ky_of he_;omega)),(lvF [.k 0 (pV b),.k 5 (pV r10),.k 7 (pV r13),.k 8 (pV r16),.k 10 (pV r39),.o 12 (oJ .i64 ((k:Int)+1) (((k+1):Nat):Int))]),h56⟩
   refine lw (.bool false) (fun _=>qz11e72_eql_f (x:=Ot 47) (y:=Ot 48) x59.out.1 x59.out.2.1 x59.out.2.2 x y z kr kr kr om _)<|go [.v 10 1 (oIr ((k:Int)+1))] ?_
   exact enN (S.R.length-(k+1)) ⟨(k+1),_,rfl,om,(any_step hb_ hx60 (decide_eq_false fun he_=>by have h_:=ky_of he_;omega)),(lvF [.k 0 (pV b),.k 5 (pV r10),.k 7 (pV r13),.k 8 (pV r16),.k 10 (pV r39),.o 12 (oJ .i64 ((k:Int)+1) (((k+1):Nat):Int))]),h56⟩
  refine go [.v 9 6 (oF _ c54)]<|up ?_
  have h71:sat g _ (Zr b n S.A (allE S.E) S.R::_):=zr_close lO lE lE h53.d.d.d.d.t9
  refine go [rd 13 1 6 0 2 h53] ?_
  rcases Bool.eq_false_or_eq_true (hasX (allE S.E) (u0,u1)) with cb72|cb72
  ·
   refine cl1 call151 (by have h_:=zhas_ht b n S.A (allE S.E) S.R u0 u1;rw[cb72] at h_;exact h_) h71 fun _ h74=> ?_
   have h75:=h74.b.t6
   refine g0<|sA [iV 0,iV 0,uV 0] h75 fun _ h77=>g0 ?_
   have hN_:newE (x,y,z) L=0:=(newE_good om).trans (show tagE L=0 from by omega)
   have hH_:hasH S.E (u0,u1):=of_decide_eq_true ((hasX_eq S.E (u0,u1)).symm.trans cb72)
   exact en (.tuple #[.agg #[iV 0,iV 0,uV 0],iV 6]) [rd 0 0 0 0 3 h77] ⟨_,[Zr b n S.A (allE S.E) S.R],rfl,(have hE_:topE S (x,y,z) L (u0,u1)=6:=(by unfold topE;rw[if_neg (fun h_=>h_ hN_),if_neg (fun h_=>h_ (show objH (u0,u1) from by unfold objH;simp only;omega)),if_pos (.inr hH_)]);⟨by rw[hE_,(opn_bad hE_ dc).2]<;>rfl,by rw[(opn_bad hE_ dc).1]⟩),(tk2 (sf1 (sf5 h77.a.t6)))⟩
  refine cl1 call151 (by have h_:=zhas_ht b n S.A (allE S.E) S.R u0 u1;rw[cb72] at h_;exact h_) h71 fun _ h81=> ?_
  obtain⟨s82,p83,c84,p85,c86,hq87,h88⟩:=zr_open h81
  have hb89:=hq87.1
  have hb90:=hq87.2
  refine go [rd 15 3 0 2 1 h88,.s 15 5] ?_
  by_cases c91:(S.R.length:Int)≥2000
  ·
   have h92:=h88.e.t9
   refine go [.v 15 5 (oT _ c91)]<|sA [iV 0,iV 0,uV 0] h92 fun w93 h94=>g0 ?_
   have h96:sat g _ (Zr b n S.A (allE S.E) S.R::_):=zr_close lO lE lE h94.d.d.d.d.t9
   have hN_:newE (x,y,z) L=0:=(newE_good om).trans (show tagE L=0 from by omega)
   have hH_: ¬hasH S.E (u0,u1):=of_decide_eq_false ((hasX_eq S.E (u0,u1)).symm.trans cb72)
   have hO_: ¬hasO S.R (x,y,z):=of_decide_eq_false ((hasP_eq S.R (x,y,z)).symm.trans (any_end hb_ om))
   exact en (.tuple #[.agg #[iV 0,iV 0,uV 0],iV 4]) [rd 0 0 0 0 3 h94] ⟨_,[Zr b n S.A (allE S.E) S.R],rfl,(have hE_:topE S (x,y,z) L (u0,u1)=4:=(by unfold topE;rw[if_neg (fun h_=>h_ hN_),if_neg (fun h_=>h_ (show objH (u0,u1) from by unfold objH;simp only;omega)),if_neg (not_or.2 ⟨hO_,hH_⟩),if_pos (.inl om)]);⟨by rw[hE_,(opn_bad hE_ dc).2]<;>rfl,by rw[(opn_bad hE_ dc).1]⟩),h96.e.a.t2⟩
  have h98:=h88.a.t9
  refine go [.v 15 5 (oF _ c91),rd 15 10 0 0 1 h88]<|cl1 call152 (zfree_ht s82 n S.A) h98 fun _ h100=> ?_
  by_cases c101:(((inS 0 S.A 0).length:Nat):Int)=0
  ·
   have h102:=h100.e.t9
   refine go [.v 15 12 (qeT _ _ c101)]<|sA [iV 0,iV 0,uV 0] h102 fun w103 h104=>g0 ?_
   have h106:sat g _ (Zr b n S.A (allE S.E) S.R::_):=zr_close lO lE lE h104.d.d.c.d.t9
   have hN_:newE (x,y,z) L=0:=(newE_good om).trans (show tagE L=0 from by omega)
   have hH_: ¬hasH S.E (u0,u1):=of_decide_eq_false ((hasX_eq S.E (u0,u1)).symm.trans cb72)
   have hO_: ¬hasO S.R (x,y,z):=of_decide_eq_false ((hasP_eq S.R (x,y,z)).symm.trans (any_end hb_ om))
   exact en (.tuple #[.agg #[iV 0,iV 0,uV 0],iV 4]) [rd 0 0 0 0 3 h104] ⟨_,[Zr b n S.A (allE S.E) S.R],rfl,(have hE_:topE S (x,y,z) L (u0,u1)=4:=(by unfold topE;rw[if_neg (fun h_=>h_ hN_),if_neg (fun h_=>h_ (show objH (u0,u1) from by unfold objH;simp only;omega)),if_neg (not_or.2 ⟨hO_,hH_⟩),if_pos (.inr (freeS_none.2 om))]);⟨by rw[hE_,(opn_bad hE_ dc).2]<;>rfl,by rw[(opn_bad hE_ dc).1]⟩),h106.e.a.t2⟩
  refine go [.v 15 12 (qeF _ _ c101)]<|dw (fls [0,2,3,4,5,7] (Tr.an2 1 (Tr.an2 6 (Tr.an 8 (Tr.an 9 (fls [10,11] (Tr.an 12 Tr.nil)))) 8 (Tr.an 6 (Tr.an 9 (fls [10,11] (Tr.an 12 Tr.nil))))) 8 (Tr.an 1 (Tr.an 6 (Tr.an 9 (fls [10,11] (Tr.an 12 Tr.nil))))))) h100 fun _ h109=>go [rd 17 5 1 2 1 h109,rd 17 7 4 0 8 h109] ?_
  refine br2 ?_ ?_;rotate_left
  ·
   refine nG (fun q_=> .slice (some ⟨q_,0,none⟩) 1 1) 149 [iV x,iV y,uV z,iV 1,iV 0,iV 0,iV 0,.string (St L)] h109 (fun r185 _ h187=>⟨kd [rd 0 5 2 2 1 h187],?_⟩)
   refine nG (fun q_=> .slice (some ⟨q_,0,none⟩) 0 0) 149 [] h187 (fun r188 w189 h190=>⟨kd [rd 0 5 3 2 1 h190],?_⟩)
   have h191:sat g _ (Sl 149 8 (some ⟨r188,0,none⟩) 0 0 (fl eRs [])::_):=sl_of_cl h190 rfl om
   refine actG ?_
   refine aG 76 8 (Ot 71) (Ot 75) (.agg #[iV 0,iV 0,uV 0,iV 0,iV 0,iV 0,iV 0,.string (St [])]) (some ⟨r188,0,none⟩) p85 0 0 S.R.length c86 72 underlying212 h191 5 rfl (fl eRs S.R) (gv_sl _ _ _) (fl_len eRs_ok _) (fl_one eRs_ok _) S.R.length ?_
   intro p192 cap193 w194 h195
   have h196:sat g _ (Sl 149 8 p192 S.R.length cap193 (fl eRs S.R)::_):=sI h195
   obtain⟨hn197,hn198⟩:=sl_le h196
   refine⟨kd [],nxG ?_⟩
   refine actG ?_
   refine aA 79 8 (Ot 76) (Ot 78) (.agg #[iV 0,iV 0,uV 0,iV 0,iV 0,iV 0,iV 0,.string (St [])]) p192 S.R.length cap193 1 1 (⟨r185,0,none⟩) 72 underlying212 h196 (fl eRs [(⟨(x,y,z),1,0,0,0,L⟩:Rs)]) rfl (cell1 h196 rfl) (fl_one eRs_ok _) (S.R.length+1) ?_
   intro p199 cap200 w201 h202
   have h203:sat g _ (Sl 149 8 p199 (S.R.length+1) cap200 (fl eRs (S.R++ [(⟨(x,y,z),1,0,0,0,L⟩:Rs)]))::_):=sJ h202
   obtain⟨hn204,hn205⟩:=sl_le h203
   refine⟨kd [],nxG ?_⟩
   have h206:=h203.c.t11
   refine g0<|sG [(2,.slice p199 (S.R.length+1) cap200)] [pV s82,.slice p83 ((allE S.E).length) c84,.slice p199 (S.R.length+1) cap200] h206 fun _ h208=>⟨kd [],?_⟩
   refine g0<|dw (fls [0,1,2,3,4,5,6] (Tr.an 7 (Tr.an 8 (Tr.fl 9 Tr.nil)))) h208 fun w209 h210=> ?_
   obtain⟨j211,vg212,hf213⟩:=free_some (A:=S.A) om
   have hr_:=wf_room hW hf213
   have h215:sat g _ (Zr b n S.A (allE S.E) (S.R++ [(⟨(x,y,z),1,0,0,0,L⟩:Rs)])::_):=zr_close lO lE lE h210.d.d.b.t11
   refine go [rd 18 4 0 2 1 h210,.v 18 5 (oJ .i64 ((S.R.length+1:Nat):Int) ((S.R.length:Int)+1)),rd 18 6 8 0 2 h210]<|cw1 call153 (zadd_ht b n S.A (allE S.E) (S.R++ [(⟨(x,y,z),1,0,0,0,L⟩:Rs)]) ((S.R.length:Int)+1) u0 u1 S.R.length ⟨(x,y,z),1,0,0,0,L⟩ (by simp) om j211 vg212 hf213 om) h215 fun _ h217=>⟨kd [],?_⟩
   refine sB [iV x,iV (j211:Int),uV vg212] h217.d.t8 fun _ h220=>⟨kd [],?_⟩
   refine g0 ?_
   have hN_:newE (x,y,z) L=0:=(newE_good om).trans (show tagE L=0 from by omega)
   have hH_: ¬hasH S.E (u0,u1):=of_decide_eq_false ((hasX_eq S.E (u0,u1)).symm.trans cb72)
   have hO_: ¬hasO S.R (x,y,z):=of_decide_eq_false ((hasP_eq S.R (x,y,z)).symm.trans (any_end hb_ om))
   have hE_:topE S (x,y,z) L (u0,u1)=0:=by unfold topE;rw[if_neg (fun h_=>h_ hN_),if_neg (fun h_=>h_ (show objH (u0,u1) from by unfold objH;simp only;omega)),if_neg (not_or.2 ⟨hO_,hH_⟩),if_neg (by rw[hf213];rintro(h_|h_)<;>first|omega|cases h_)]
   have hS_:opnS S (x,y,z) L (u0,u1)=⟨S.A.set j211 (1,vg212),gset S.E (j211:Int) ⟨(x,(j211:Int),vg212),(S.R.length:Int)+1,(u0,u1)⟩,S.R++ [⟨(x,y,z),1,0,0,0,L⟩]⟩:=by unfold opnS;rw[if_pos hE_];exact(addS_at (S:=⟨S.A,S.E,S.R++ [⟨(x,y,z),1,0,0,0,L⟩]⟩) hf213).1
   have hD_:opnD S (x,y,z) L (u0,u1)=(x,(j211:Int),vg212):=by unfold opnD;rw[if_pos hE_,(addS_at (num:=0) (h:=(0,0)) hf213).2]
   exact en (.tuple #[.agg #[iV x,iV (j211:Int),uV vg212],iV 0]) [rd 0 0 0 0 3 h220] ⟨_,[Zr b n (S.A.set j211 (1,vg212)) (insX (allE S.E) j211 ⟨(x,(j211:Int),vg212),(S.R.length:Int)+1,(u0,u1)⟩) (S.R++ [(⟨(x,y,z),1,0,0,0,L⟩:Rs)])],rfl,⟨by rw[hE_,hD_],by rw[hS_,ins_all (wf_kyd hW) (free_at hW hf213).1 (free_at hW hf213).2]⟩,(tk2 (sf1 (sf7 h220.a.t8)))⟩
  refine nG (fun q_=> .slice (some ⟨q_,0,none⟩) 0 0) 149 [] h109 (fun r110 w111 h112=>⟨kd [rd 0 7 5 0 8 h112,rd 0 5 2 2 1 h112],?_⟩)
  refine br2 ?_ ?_
  ·
   have h113:sat g _ (Sl 149 8 (some ⟨r110,0,none⟩) 0 0 (fl eRs [])::_):=sl_of_cl h112 rfl om
   refine actG ?_
   refine aG 76 8 (Ot 71) (Ot 75) (.agg #[iV 0,iV 0,uV 0,iV 0,iV 0,iV 0,iV 0,.string (St [])]) (some ⟨r110,0,none⟩) p85 0 0 S.R.length c86 72 underlying212 h113 4 rfl (fl eRs S.R) (gv_sl _ _ _) (fl_len eRs_ok _) (fl_one eRs_ok _) S.R.length ?_
   intro p114 cap115 w116 h117
   have h118:sat g _ (Sl 149 8 p114 S.R.length cap115 (fl eRs S.R)::_):=sI h117
   obtain⟨hn119,hn120⟩:=sl_le h118
   refine⟨kd [rd 0 7 5 0 8 h118],nxG ?_⟩
   refine nG (fun q_=> .slice (some ⟨q_,0,none⟩) 1 1) 149 [iV x,iV y,uV z,iV 1,iV 0,iV 0,iV 0,.string (St L)] h118 (fun r121 _ h123=>⟨kd [],?_⟩)
   have h124:=h123.a.t11
   refine actG ?_
   refine aA 79 8 (Ot 76) (Ot 78) (.agg #[iV 0,iV 0,uV 0,iV 0,iV 0,iV 0,iV 0,.string (St [])]) p114 S.R.length cap115 1 1 (⟨r121,0,none⟩) 72 underlying212 h124 (fl eRs [(⟨(x,y,z),1,0,0,0,L⟩:Rs)]) rfl (cell1 h124 rfl) (fl_one eRs_ok _) (S.R.length+1) ?_
   intro p125 cap126 w127 h128
   have h129:sat g _ (Sl 149 8 p125 (S.R.length+1) cap126 (fl eRs (S.R++ [(⟨(x,y,z),1,0,0,0,L⟩:Rs)]))::_):=sJ h128
   obtain⟨hn130,hn131⟩:=sl_le h129
   refine⟨kd [],nxG ?_⟩
   have h132:=h129.c.t11
   refine g0<|sG [(2,.slice p125 (S.R.length+1) cap126)] [pV s82,.slice p83 ((allE S.E).length) c84,.slice p125 (S.R.length+1) cap126] h132 fun _ h134=>⟨kd [],?_⟩
   refine g0<|dw (fls [0,1,2,3,4,5,6] (Tr.an 7 (Tr.an 8 (Tr.fl 9 Tr.nil)))) h134 fun w135 h136=> ?_
   obtain⟨j137,vg138,hf139⟩:=free_some (A:=S.A) om
   have hr_:=wf_room hW hf139
   have h141:sat g _ (Zr b n S.A (allE S.E) (S.R++ [(⟨(x,y,z),1,0,0,0,L⟩:Rs)])::_):=zr_close lO lE lE h136.d.d.b.t11
   refine go [rd 18 4 0 2 1 h136,.v 18 5 (oJ .i64 ((S.R.length+1:Nat):Int) ((S.R.length:Int)+1)),rd 18 6 8 0 2 h136]<|cw1 call153 (zadd_ht b n S.A (allE S.E) (S.R++ [(⟨(x,y,z),1,0,0,0,L⟩:Rs)]) ((S.R.length:Int)+1) u0 u1 S.R.length ⟨(x,y,z),1,0,0,0,L⟩ (by simp) om j137 vg138 hf139 om) h141 fun _ h143=>⟨kd [],?_⟩
   refine sB [iV x,iV (j137:Int),uV vg138] h143.d.t8 fun _ h146=>⟨kd [],?_⟩
   refine g0 ?_
   have hN_:newE (x,y,z) L=0:=(newE_good om).trans (show tagE L=0 from by omega)
   have hH_: ¬hasH S.E (u0,u1):=of_decide_eq_false ((hasX_eq S.E (u0,u1)).symm.trans cb72)
   have hO_: ¬hasO S.R (x,y,z):=of_decide_eq_false ((hasP_eq S.R (x,y,z)).symm.trans (any_end hb_ om))
   have hE_:topE S (x,y,z) L (u0,u1)=0:=by unfold topE;rw[if_neg (fun h_=>h_ hN_),if_neg (fun h_=>h_ (show objH (u0,u1) from by unfold objH;simp only;omega)),if_neg (not_or.2 ⟨hO_,hH_⟩),if_neg (by rw[hf139];rintro(h_|h_)<;>first|omega|cases h_)]
   have hS_:opnS S (x,y,z) L (u0,u1)=⟨S.A.set j137 (1,vg138),gset S.E (j137:Int) ⟨(x,(j137:Int),vg138),(S.R.length:Int)+1,(u0,u1)⟩,S.R++ [⟨(x,y,z),1,0,0,0,L⟩]⟩:=by unfold opnS;rw[if_pos hE_];exact(addS_at (S:=⟨S.A,S.E,S.R++ [⟨(x,y,z),1,0,0,0,L⟩]⟩) hf139).1
   have hD_:opnD S (x,y,z) L (u0,u1)=(x,(j137:Int),vg138):=by unfold opnD;rw[if_pos hE_,(addS_at (num:=0) (h:=(0,0)) hf139).2]
   exact en (.tuple #[.agg #[iV x,iV (j137:Int),uV vg138],iV 0]) [rd 0 0 0 0 3 h146] ⟨_,[Zr b n (S.A.set j137 (1,vg138)) (insX (allE S.E) j137 ⟨(x,(j137:Int),vg138),(S.R.length:Int)+1,(u0,u1)⟩) (S.R++ [(⟨(x,y,z),1,0,0,0,L⟩:Rs)])],rfl,⟨by rw[hE_,hD_],by rw[hS_,ins_all (wf_kyd hW) (free_at hW hf139).1 (free_at hW hf139).2]⟩,(tk2 (sf1 (sf7 h146.a.t8)))⟩
  refine nG (fun q_=> .slice (some ⟨q_,0,none⟩) 1 1) 149 [iV x,iV y,uV z,iV 1,iV 0,iV 0,iV 0,.string (St L)] h112 (fun r149 w150 h151=>⟨kd [rd 0 5 3 2 1 h151],?_⟩)
  have h153:sat g _ (Sl 149 8 (some ⟨r110,0,none⟩) 0 0 (fl eRs [])::_):=sl_of_cl h151.a.t11 rfl om
  refine actG ?_
  refine aG 76 8 (Ot 71) (Ot 75) (.agg #[iV 0,iV 0,uV 0,iV 0,iV 0,iV 0,iV 0,.string (St [])]) (some ⟨r110,0,none⟩) p85 0 0 S.R.length c86 72 underlying212 h153 5 rfl (fl eRs S.R) (gv_sl _ _ _) (fl_len eRs_ok _) (fl_one eRs_ok _) S.R.length ?_
  intro p154 cap155 w156 h157
  have h158:sat g _ (Sl 149 8 p154 S.R.length cap155 (fl eRs S.R)::_):=sI h157
  obtain⟨hn159,hn160⟩:=sl_le h158
  refine⟨kd [],nxG ?_⟩
  refine actG ?_
  refine aA 79 8 (Ot 76) (Ot 78) (.agg #[iV 0,iV 0,uV 0,iV 0,iV 0,iV 0,iV 0,.string (St [])]) p154 S.R.length cap155 1 1 (⟨r149,0,none⟩) 72 underlying212 h158 (fl eRs [(⟨(x,y,z),1,0,0,0,L⟩:Rs)]) rfl (cell1 h158 rfl) (fl_one eRs_ok _) (S.R.length+1) ?_
  intro p161 cap162 w163 h164
  have h165:sat g _ (Sl 149 8 p161 (S.R.length+1) cap162 (fl eRs (S.R++ [(⟨(x,y,z),1,0,0,0,L⟩:Rs)]))::_):=sJ h164
  obtain⟨hn166,hn167⟩:=sl_le h165
  refine⟨kd [],nxG ?_⟩
  have h168:=h165.c.t11
  refine g0<|sG [(2,.slice p161 (S.R.length+1) cap162)] [pV s82,.slice p83 ((allE S.E).length) c84,.slice p161 (S.R.length+1) cap162] h168 fun _ h170=>⟨kd [],?_⟩
  refine g0<|dw (fls [0,1,2,3,4,5,6] (Tr.an 7 (Tr.an 8 (Tr.fl 9 Tr.nil)))) h170 fun w171 h172=> ?_
  obtain⟨j173,vg174,hf175⟩:=free_some (A:=S.A) om
  have hr_:=wf_room hW hf175
  have h177:sat g _ (Zr b n S.A (allE S.E) (S.R++ [(⟨(x,y,z),1,0,0,0,L⟩:Rs)])::_):=zr_close lO lE lE h172.d.d.b.t11
  refine go [rd 18 4 0 2 1 h172,.v 18 5 (oJ .i64 ((S.R.length+1:Nat):Int) ((S.R.length:Int)+1)),rd 18 6 8 0 2 h172]<|cw1 call153 (zadd_ht b n S.A (allE S.E) (S.R++ [(⟨(x,y,z),1,0,0,0,L⟩:Rs)]) ((S.R.length:Int)+1) u0 u1 S.R.length ⟨(x,y,z),1,0,0,0,L⟩ (by simp) om j173 vg174 hf175 om) h177 fun _ h179=>⟨kd [],?_⟩
  refine sB [iV x,iV (j173:Int),uV vg174] h179.d.t8 fun _ h182=>⟨kd [],?_⟩
  refine g0 ?_
  have hN_:newE (x,y,z) L=0:=(newE_good om).trans (show tagE L=0 from by omega)
  have hH_: ¬hasH S.E (u0,u1):=of_decide_eq_false ((hasX_eq S.E (u0,u1)).symm.trans cb72)
  have hO_: ¬hasO S.R (x,y,z):=of_decide_eq_false ((hasP_eq S.R (x,y,z)).symm.trans (any_end hb_ om))
  have hE_:topE S (x,y,z) L (u0,u1)=0:=by unfold topE;rw[if_neg (fun h_=>h_ hN_),if_neg (fun h_=>h_ (show objH (u0,u1) from by unfold objH;simp only;omega)),if_neg (not_or.2 ⟨hO_,hH_⟩),if_neg (by rw[hf175];rintro(h_|h_)<;>first|omega|cases h_)]
  have hS_:opnS S (x,y,z) L (u0,u1)=⟨S.A.set j173 (1,vg174),gset S.E (j173:Int) ⟨(x,(j173:Int),vg174),(S.R.length:Int)+1,(u0,u1)⟩,S.R++ [⟨(x,y,z),1,0,0,0,L⟩]⟩:=by unfold opnS;rw[if_pos hE_];exact(addS_at (S:=⟨S.A,S.E,S.R++ [⟨(x,y,z),1,0,0,0,L⟩]⟩) hf175).1
  have hD_:opnD S (x,y,z) L (u0,u1)=(x,(j173:Int),vg174):=by unfold opnD;rw[if_pos hE_,(addS_at (num:=0) (h:=(0,0)) hf175).2]
  exact en (.tuple #[.agg #[iV x,iV (j173:Int),uV vg174],iV 0]) [rd 0 0 0 0 3 h182] ⟨_,[Zr b n (S.A.set j173 (1,vg174)) (insX (allE S.E) j173 ⟨(x,(j173:Int),vg174),(S.R.length:Int)+1,(u0,u1)⟩) (S.R++ [(⟨(x,y,z),1,0,0,0,L⟩:Rs)])],rfl,⟨by rw[hE_,hD_],by rw[hS_,ins_all (wf_kyd hW) (free_at hW hf175).1 (free_at hW hf175).2]⟩,(tk2 (sf1 (sf7 h182.a.t8)))⟩
 refine cl0 call149 (zrn_no x y z L om om om om) h30 fun _ h313=>g0<|nP 149 [iV 0,iV 0,uV 0,iV 0,iV 0,iV 0,iV 0,.string (St [])] h313 (fun r314 _ h316=> ?_)
 refine sA [iV 0,iV 0,uV 0,iV 0,iV 0,iV 0,iV 0,.string (St [])] h316 fun _ h318=> ?_
 have h319:=h318.e.t9
 refine g0<|sA [iV 0,iV 0,uV 0] h319 fun w320 h321=>g0 ?_
 have h323:sat g _ (Zr b n S.A (allE S.E) S.R::_):=zr_close lO lE lE h321.e.e.e.e.t9
 have hN_:newE (x,y,z) L=2:=newE_no om
 exact en (.tuple #[.agg #[iV 0,iV 0,uV 0],iV 2]) [rd 0 0 0 0 3 h321] ⟨_,[Zr b n S.A (allE S.E) S.R],rfl,(have hE_:topE S (x,y,z) L (u0,u1)=2:=(by unfold topE;rw[hN_,if_pos dc]);⟨by rw[hE_,(opn_bad hE_ dc).2]<;>rfl,by rw[(opn_bad hE_ dc).1]⟩),h323.e.a.t2⟩
theorem zexp_ht(b n:Nat)(S:Ts)(hW:Wf n S)(vn:Int):HT prog 76 [pV b,iV vn] [Zr b n S.A (allE S.E) S.R] (fun v K=> ∃(p:Option Addr) (c:Nat),v= .tuple #[.slice p ((descs S.E vn).length) c,iV (nE S vn)]∧K= [Zr b n ((expS S vn).A) (allE (expS S vn).E) ((expS S vn).R),Sl 144 3 p ((descs S.E vn).length) c (fl eO (descs S.E vn))]):=by
 have hdl_:=descs_len S.E vn
 refine hiS func76 ntmps76 fun g w0 R h0=>g0<|cP call158 (zdsc_ht b n S hW vn) h0 ?_
 rintro v K _ (⟨p10,c11,rfl,rfl⟩) h13
 have h14:=ap2 h13
 refine g0 ?_
 refine lpS (fun mz_ a w=> ∃k:Nat,∃lr:Fr,mz_=((descs S.E vn).length)-k∧(k≤((descs S.E vn).length))∧a=mk 29 (([(0,pV b),(6,.slice p10 ((descs S.E vn).length) c11),(7,iV (nE S vn)),(8,iV (k:Int))]:Fr)++lr)∧sat g w [Zr b n ((dropK S vn k).A) (allE (dropK S vn k).E) ((dropK S vn k).R),Sl 144 3 p10 ((descs S.E vn).length) c11 (fl eO (descs S.E vn)),R]) (((descs S.E vn).length)-0) ⟨0,_,rfl,(Nat.zero_le _),(lvF [.k 0 (pV b),.k 6 (.slice p10 ((descs S.E vn).length) c11),.k 7 (iV (nE S vn)),.o 8 (oJ .i64 0 (0:Int))]),h14⟩ ?_
 rintro m16 a17 w18 ⟨k,lr15,rfl,hk_,rfl,h19⟩
 refine ga<|go [.s 3 3] ?_
 by_cases c20:(k:Int)<(((descs S.E vn).length:Nat):Int)
 ·
  obtain⟨b21,hp22⟩:=sl_ptr0 (j:=1) h19 rfl om
  refine go [.v 3 3 (oT _ c20),.s 5 3]<|lwP (.pointer (some ⟨b21,k*3,none⟩)) (liP (Ot 22) (Ot 23) p10 b21 0 (k:Int) ((descs S.E vn).length) c11 underlying120 3 k hp22 (k*3)) ?_
  obtain⟨x23,hx24⟩: ∃x,(descs S.E vn)[k]? =some x:=⟨_,List.getElem?_eq_getElem om⟩
  have hc_:=close_at hW hx24
  have hb25:1≤x23.2.2:=(fndE_ok.1 hc_.1).1.2.2.2.2
  refine go [.r 5 4 b21 (k*3) [iV x23.1,iV x23.2.1,uV x23.2.2] ⟨gvc 1 h19 rfl hp22 eO_ok 0 (iV x23.1) hx24 (k*3),gvc 1 h19 rfl hp22 eO_ok 1 (iV x23.2.1) hx24 (k*3+1),gvc 1 h19 rfl hp22 eO_ok 2 (uV x23.2.2) hx24 (k*3+2),trivial⟩]<|cl1 call159 (zcls_ht b n (dropK S vn k) (wf_dropK hW k) x23.1 x23.2.1 x23.2.2 om) h19 fun w26 h27=>go [.v 4 1 (oIr ((k:Int)+1))] ?_
  refine enL ?_
  have h28:sat g w26 [Zr b n ((dropK S vn (k+1)).A) (allE (dropK S vn (k+1)).E) ((dropK S vn (k+1)).R),Sl 144 3 p10 ((descs S.E vn).length) c11 (fl eO (descs S.E vn)),R]:=hc_.2.2.1▸h27
  change ∃n',n'<_∧_
  refine⟨(((descs S.E vn).length)-(k+1)),by omega,(k+1),_,rfl,om,(lvF [.k 0 (pV b),.k 6 (.slice p10 ((descs S.E vn).length) c11),.k 7 (iV (nE S vn)),.o 8 (oJ .i64 ((k:Int)+1) (((k+1):Nat):Int))]),h28⟩
 refine go [.v 3 3 (oF _ c20)]<|up<|g0 ?_
 have h29:sat g w18 [Zr b n ((expS S vn).A) (allE (expS S vn).E) ((expS S vn).R),Sl 144 3 p10 ((descs S.E vn).length) c11 (fl eO (descs S.E vn)),R]:=(dropK_all S vn (k:=k) om)▸h19
 exact en (.tuple #[.slice p10 ((descs S.E vn).length) c11,iV (nE S vn)]) [] ⟨_,_,rfl,⟨p10,c11,rfl,rfl⟩,h29⟩
theorem qz13e72_neq_t{n:Nat}{l:Fr}{o:Oper}{x y:Operand}(a0 a1 a2 c0 c1 c2:Int)(ho:o.op= .binOp .neq 72 x y 72)(hx:fe n l x= .agg #[.int .i64 a0,.int .i64 a1,.int .u32 a2])(hy:fe n l y= .agg #[.int .i64 c0,.int .i64 c1,.int .u32 c2])(h:a0=c0∧a1=c1∧a2=c2)(w:World):(execOp (fe n l) o).run prog w= .ok (.value (.bool false)) w:=by
 obtain⟨rfl,rfl,rfl⟩:=h
 simp[execOp,ho,hx,hy,go_sem]
theorem qz13e72_neq_f{n:Nat}{l:Fr}{o:Oper}{x y:Operand}(a0 a1 a2 c0 c1 c2:Int)(ho:o.op= .binOp .neq 72 x y 72)(hx:fe n l x= .agg #[.int .i64 a0,.int .i64 a1,.int .u32 a2])(hy:fe n l y= .agg #[.int .i64 c0,.int .i64 c1,.int .u32 c2])(h: ¬(a0=c0∧a1=c1∧a2=c2))(w:World):(execOp (fe n l) o).run prog w= .ok (.value (.bool true)) w:=by
 by_cases h0:a0=c0
 · skip
   by_cases h1:a1=c1
   · skip
     by_cases h2:a2=c2
     · exact absurd ⟨h0,h1,h2⟩ h
     · simp[execOp,ho,hx,hy,go_sem,h0,h1,h2]
   · simp[execOp,ho,hx,hy,go_sem,h0,h1]
 · simp[execOp,ho,hx,hy,go_sem,h0]
theorem zset_ht(b n:Nat)(S:Ts)(hW:Wf n S)(vn x y z st why tr nx:Int)(L:List UInt8)(hz0:0≤z)(hz1:z≤4294967295)(hm:L.length≤100000):HQ 77 [pV b,iV vn,.agg #[iV x,iV y,uV z,iV st,iV why,iV tr,iV nx,.string (St L)]] [Zr b n S.A (allE S.E) S.R] (iV (setE S vn (⟨(x,y,z),st,why,tr,nx,L⟩:Rs))) [Zr b n ((setS S vn (⟨(x,y,z),st,why,tr,nx,L⟩:Rs)).A) (allE (setS S vn (⟨(x,y,z),st,why,tr,nx,L⟩:Rs)).E) ((setS S vn (⟨(x,y,z),st,why,tr,nx,L⟩:Rs)).R)]:=by
 refine hiS func77 ntmps77 fun g w0 R h0=>g0<|nP 149 [iV x,iV y,uV z,iV st,iV why,iV tr,iV nx,.string (St L)] h0 (fun r10 _ h12=> ?_)
 refine g0 ?_
 by_cases c13:1≤vn
 ·
  by_cases c14:vn≤(S.R.length:Int);rotate_left
  ·
   refine cl1 call73 (by have h_:=zget_ht b n S vn;rw[(show nE S vn=3 from if_neg om)] at h_;exact h_) h12.a.t3 fun _ h127=> ?_
   refine g0<|nP 149 [iV 0,iV 0,uV 0,iV 0,iV 0,iV 0,iV 0,.string (St [])] h127 (fun _ _ h130=> ?_)
   refine sA [iV ((getR S vn).out.1),iV ((getR S vn).out.2.1),uV ((getR S vn).out.2.2),iV ((getR S vn).st),iV ((getR S vn).why),iV ((getR S vn).tr),iV ((getR S vn).nx),.string (St ((getR S vn).tag))] h130 fun _ h132=>g0 ?_
   exact en (iV 3) [] ⟨_,[Zr b n S.A (allE S.E) S.R],rfl,(have hE_:setE S vn (⟨(x,y,z),st,why,tr,nx,L⟩:Rs)=3:=(if_pos (by rw[show nE S vn=3 from if_neg om];decide));⟨by rw[hE_],by rw[set_bad hE_ om]⟩),(tk2 (sf1 (sf3 h132.a.t4)))⟩
  refine cl1 call73 (by have h_:=zget_ht b n S vn;rw[(show nE S vn=0 from if_pos om)] at h_;exact h_) h12.a.t3 fun _ h17=> ?_
  refine g0<|nP 149 [iV 0,iV 0,uV 0,iV 0,iV 0,iV 0,iV 0,.string (St [])] h17 (fun r18 _ h20=> ?_)
  refine sA [iV ((getR S vn).out.1),iV ((getR S vn).out.2.1),uV ((getR S vn).out.2.2),iV ((getR S vn).st),iV ((getR S vn).why),iV ((getR S vn).tr),iV ((getR S vn).nx),.string (St ((getR S vn).tag))] h20 fun _ h22=>go [rd 3 0 2 0 8 h22]<|cl0 call155 (zres_ht x y z st why tr nx L om om om) h22 fun _ h24=>go [.s 4 1] ?_
  by_cases c25:(resE x y z st why tr nx L)=0;rotate_left
  ·
   refine go [.v 4 1 (qnT (resE x y z st why tr nx L) 0)] ?_
   exact en (iV (resE x y z st why tr nx L)) [] ⟨_,[Zr b n S.A (allE S.E) S.R],rfl,(have hE_:setE S vn (⟨(x,y,z),st,why,tr,nx,L⟩:Rs)=resE x y z st why tr nx L:=(by unfold setE;rw[if_neg (fun h_=>h_ (show nE S vn=0 from if_pos om)),if_pos (show ¬resR (⟨(x,y,z),st,why,tr,nx,L⟩:Rs)=0 from (show ¬(resE x y z st why tr nx L)=0 from by omega))]<;>rfl);⟨by rw[hE_],by rw[set_bad hE_ om]⟩),(tk2 (sf1 (sf3 h24.a.t4)))⟩
  refine go [.v 4 1 (qnF (resE x y z st why tr nx L) 0),rd 6 1 2 0 3 h24,rd 6 3 0 0 3 h24,.s 6 4] ?_
  by_cases c26:x=(getR S vn).out.1;rotate_left
  ·
   refine lwP (.bool true) (qz13e72_neq_f (x:=Ot 25) (y:=Ot 27) x y z ((getR S vn).out.1) ((getR S vn).out.2.1) ((getR S vn).out.2.2) kr kr kr om _)<|g0 ?_
   exact en (iV 2) [] ⟨_,[Zr b n S.A (allE S.E) S.R],rfl,(have hE_:setE S vn (⟨(x,y,z),st,why,tr,nx,L⟩:Rs)=2:=(by unfold setE;rw[if_neg (fun h_=>h_ (show nE S vn=0 from if_pos om)),if_neg (fun h_=>h_ (show resR (⟨(x,y,z),st,why,tr,nx,L⟩:Rs)=0 from (show resE x y z st why tr nx L=0 from by omega))),if_pos (.inl fun h_=>by have h2_:=ky_of h_.symm;omega)]);⟨by rw[hE_],by rw[set_bad hE_ om]⟩),(tk2 (sf1 (sf3 h24.a.t4)))⟩
  by_cases c27:y=(getR S vn).out.2.1;rotate_left
  ·
   refine lwP (.bool true) (qz13e72_neq_f (x:=Ot 25) (y:=Ot 27) x y z ((getR S vn).out.1) ((getR S vn).out.2.1) ((getR S vn).out.2.2) kr kr kr om _)<|g0 ?_
   exact en (iV 2) [] ⟨_,[Zr b n S.A (allE S.E) S.R],rfl,(have hE_:setE S vn (⟨(x,y,z),st,why,tr,nx,L⟩:Rs)=2:=(by unfold setE;rw[if_neg (fun h_=>h_ (show nE S vn=0 from if_pos om)),if_neg (fun h_=>h_ (show resR (⟨(x,y,z),st,why,tr,nx,L⟩:Rs)=0 from (show resE x y z st why tr nx L=0 from by omega))),if_pos (.inl fun h_=>by have h2_:=ky_of h_.symm;omega)]);⟨by rw[hE_],by rw[set_bad hE_ om]⟩),(tk2 (sf1 (sf3 h24.a.t4)))⟩
  by_cases c28:z=(getR S vn).out.2.2;rotate_left
  ·
   refine lwP (.bool true) (qz13e72_neq_f (x:=Ot 25) (y:=Ot 27) x y z ((getR S vn).out.1) ((getR S vn).out.2.1) ((getR S vn).out.2.2) kr kr kr om _)<|g0 ?_
   exact en (iV 2) [] ⟨_,[Zr b n S.A (allE S.E) S.R],rfl,(have hE_:setE S vn (⟨(x,y,z),st,why,tr,nx,L⟩:Rs)=2:=(by unfold setE;rw[if_neg (fun h_=>h_ (show nE S vn=0 from if_pos om)),if_neg (fun h_=>h_ (show resR (⟨(x,y,z),st,why,tr,nx,L⟩:Rs)=0 from (show resE x y z st why tr nx L=0 from by omega))),if_pos (.inl fun h_=>by have h2_:=ky_of h_.symm;omega)]);⟨by rw[hE_],by rw[set_bad hE_ om]⟩),(tk2 (sf1 (sf3 h24.a.t4)))⟩
  refine lwP (.bool false) (qz13e72_neq_t (x:=Ot 25) (y:=Ot 27) x y z ((getR S vn).out.1) ((getR S vn).out.2.1) ((getR S vn).out.2.2) kr kr kr ⟨om,om,om⟩ _)<|go [rd 6 7 2 7 1 h24,rd 6 9 0 7 1 h24,.s 6 10] ?_
  by_cases cs29:L=((getR S vn).tag:List UInt8);rotate_left
  ·
   refine lwP (.bool true) (law_neStr (t:=9) (x:=Ot 31) (y:=Ot 33) (a:=L) (b:=(getR S vn).tag) kr kr kr true ((decide_eq_false cs29).trans rfl) _)<|g0 ?_
   exact en (iV 2) [] ⟨_,[Zr b n S.A (allE S.E) S.R],rfl,(have hE_:setE S vn (⟨(x,y,z),st,why,tr,nx,L⟩:Rs)=2:=(by unfold setE;rw[if_neg (fun h_=>h_ (show nE S vn=0 from if_pos om)),if_neg (fun h_=>h_ (show resR (⟨(x,y,z),st,why,tr,nx,L⟩:Rs)=0 from (show resE x y z st why tr nx L=0 from by omega))),if_pos (.inr (of_decide_eq_false (decide_eq_false cs29)))]);⟨by rw[hE_],by rw[set_bad hE_ om]⟩),(tk2 (sf1 (sf3 h24.a.t4)))⟩
  refine lwP (.bool false) (law_neStr (t:=9) (x:=Ot 31) (y:=Ot 33) (a:=L) (b:=(getR S vn).tag) kr kr kr false (decide_eq_true cs29) _) ?_
  have h32:=h24.a.t4
  refine g0<|cP call158 (by have h_:=zdsc_ht b n S hW vn;rw[(show nE S vn=0 from if_pos om)] at h_;exact h_) h32 ?_
  rintro v K _ (⟨p30,c31,rfl,rfl⟩) h34
  have h35:=ap2 h34
  refine go [rd 9 1 3 3 1 h35,.s 9 2] ?_
  by_cases c36:st=1
  ·
   refine go [.v 9 2 (qnF st 1)]<|nG (fun q_=> .slice (some ⟨q_,0,none⟩) 0 0) 149 [] h35 (fun r37 w38 h39=>⟨kd [],?_⟩)
   obtain⟨s41,p42,c43,p44,c45,hq46,h47⟩:=zr_open h39.a.t6
   have hb48:=hq46.1
   have hb49:=hq46.2
   have h51:sat g _ (Sl 149 8 (some ⟨r37,0,none⟩) 0 0 (fl eRs [])::_):=sl_of_cl h47.d.t9 rfl om
   refine go [rd 11 5 0 2 1 h47] ?_
   refine actG ?_
   refine aG 56 8 (Ot 51) (Ot 55) (.agg #[iV 0,iV 0,uV 0,iV 0,iV 0,iV 0,iV 0,.string (St [])]) (some ⟨r37,0,none⟩) p44 0 0 S.R.length c45 72 underlying212 h51 4 rfl (fl eRs S.R) (gv_sl _ _ _) (fl_len eRs_ok _) (fl_one eRs_ok _) S.R.length ?_
   intro p52 cap53 w54 h55
   have h56:sat g _ (Sl 149 8 p52 S.R.length cap53 (fl eRs S.R)::_):=sI h55
   obtain⟨hn57,hn58⟩:=sl_le h56
   refine nxA ?_
   have h59:=h56.a.t9
   refine g0<|sP [(2,.slice p52 S.R.length cap53)] [pV s41,.slice p42 ((allE S.E).length) c43,.slice p52 S.R.length cap53] h59 fun _ h61=>g0<|dw (fls [0,1,2,3,4,5,6,7] (Tr.an 8 Tr.nil)) h61 fun _ h63=> ?_
   obtain⟨b64,hp65⟩:=sl_ptr0 (j:=1) h63 rfl om
   refine go [rd 12 3 0 2 1 h63,.v 12 5 (oIr (vn-1)),rd 12 6 7 0 8 h63,.s 12 7]<|lw (.pointer (some ⟨b64,((vn-1).toNat)*8,none⟩)) (fun _=>liP (Ot 62) (Ot 64) p52 b64 0 (vn-1) S.R.length cap53 underlying212 8 ((vn-1).toNat) hp65 (((vn-1).toNat)*8)) ?_
   have h66:=h63.a.t9
   refine actG ?_
   have hl69:=fl_n eRs_ok dc h66
   obtain⟨x70,hx71⟩: ∃x,S.R[((vn-1).toNat)]? =some x:=⟨_,List.getElem?_eq_getElem (by rw[hl69];omega)⟩
   refine an_storeSl (b:=b64) [(((vn-1).toNat)*8,iV x),(((vn-1).toNat)*8+1,iV y),(((vn-1).toNat)*8+2,uV z),(((vn-1).toNat)*8+3,iV st),(((vn-1).toNat)*8+4,iV why),(((vn-1).toNat)*8+5,iV tr),(((vn-1).toNat)*8+6,iV nx),(((vn-1).toNat)*8+7,.string (St L))] (cs':=(fl eRs (S.R.set ((vn-1).toNat) (⟨(x,y,z),st,why,tr,nx,L⟩:Rs)))) kr kr hp65 (allq ⟨⟨by omega,rfl⟩,⟨by omega,rfl⟩,⟨by omega,rfl⟩,⟨by omega,rfl⟩,⟨by omega,rfl⟩,⟨by omega,rfl⟩,⟨by omega,rfl⟩,⟨by omega,rfl⟩,trivial⟩) om (fl_upd eRs_ok (i:=((vn-1).toNat)) (x:=x70) (y:=(⟨(x,y,z),st,why,tr,nx,L⟩:Rs)) hx71 [(0,iV x),(1,iV y),(2,uV z),(3,iV st),(4,iV why),(5,iV tr),(6,iV nx),(7,.string (St L))] rfl rfl rfl) h66 ?_
   intro w67 h68
   refine⟨kd [],nxN ?_⟩
   refine g0 ?_
   have h73:sat g _ (Zr b n S.A (allE S.E) (S.R.set ((vn-1).toNat) (⟨(x,y,z),st,why,tr,nx,L⟩:Rs))::_):=zr_close (by rw[List.length_set];omega) lE (by rw[List.length_set]) h68.c.c.c.t9
   have hE_:setE S vn (⟨(x,y,z),st,why,tr,nx,L⟩:Rs)=0:=by unfold setE;rw[if_neg (fun h_=>h_ (show nE S vn=0 from if_pos om)),if_neg (fun h_=>h_ (show resR (⟨(x,y,z),st,why,tr,nx,L⟩:Rs)=0 from (show resE x y z st why tr nx L=0 from by omega))),if_neg (fun h_=>h_.elim (fun h1_=>h1_ (zky_eq (d:=(getR S vn).out) om).symm) fun h1_=>h1_ (of_decide_eq_true (decide_eq_true cs29))),if_neg (fun h_=>by have h1_: ¬st=1:=h_.1;have h2_:=h_.2;omega)]
   have hS_:setS S vn (⟨(x,y,z),st,why,tr,nx,L⟩:Rs)=⟨S.A,S.E,S.R.set (vn-1).toNat (⟨(x,y,z),st,why,tr,nx,L⟩:Rs)⟩:=if_pos hE_
   exact en (iV 0) [] ⟨_,[Zr b n S.A (allE S.E) (S.R.set ((vn-1).toNat) (⟨(x,y,z),st,why,tr,nx,L⟩:Rs))],rfl,⟨by rw[hE_],by rw[hS_]⟩,h73.e.a.t2⟩
  refine go [.v 9 2 (qnT st 1),.s 9 6] ?_
  by_cases c75:(((descs S.E vn).length:Nat):Int)>0
  ·
   refine go [.v 9 6 (oT _ c75)] ?_
   exact en (iV 8) [] ⟨_,[Zr b n S.A (allE S.E) S.R],rfl,(have hE_:setE S vn (⟨(x,y,z),st,why,tr,nx,L⟩:Rs)=8:=(by unfold setE;rw[if_neg (fun h_=>h_ (show nE S vn=0 from if_pos om)),if_neg (fun h_=>h_ (show resR (⟨(x,y,z),st,why,tr,nx,L⟩:Rs)=0 from (show resE x y z st why tr nx L=0 from by omega))),if_neg (fun h_=>h_.elim (fun h1_=>h1_ (zky_eq (d:=(getR S vn).out) om).symm) fun h1_=>h1_ (of_decide_eq_true (decide_eq_true cs29))),if_pos ⟨(show ¬st=1 from by omega),by omega⟩]);⟨by rw[hE_],by rw[set_bad hE_ om]⟩),h35.d.a.t2⟩
  refine go [.v 9 6 (oF _ c75)]<|nG (fun q_=> .slice (some ⟨q_,0,none⟩) 0 0) 149 [] h35 (fun r77 w78 h79=>⟨kd [],?_⟩)
  obtain⟨s81,p82,c83,p84,c85,hq86,h87⟩:=zr_open h79.a.t6
  have hb88:=hq86.1
  have hb89:=hq86.2
  have h91:sat g _ (Sl 149 8 (some ⟨r77,0,none⟩) 0 0 (fl eRs [])::_):=sl_of_cl h87.d.t9 rfl om
  refine go [rd 11 5 0 2 1 h87] ?_
  refine actG ?_
  refine aG 56 8 (Ot 51) (Ot 55) (.agg #[iV 0,iV 0,uV 0,iV 0,iV 0,iV 0,iV 0,.string (St [])]) (some ⟨r77,0,none⟩) p84 0 0 S.R.length c85 72 underlying212 h91 4 rfl (fl eRs S.R) (gv_sl _ _ _) (fl_len eRs_ok _) (fl_one eRs_ok _) S.R.length ?_
  intro p92 cap93 w94 h95
  have h96:sat g _ (Sl 149 8 p92 S.R.length cap93 (fl eRs S.R)::_):=sI h95
  obtain⟨hn97,hn98⟩:=sl_le h96
  refine nxA ?_
  have h99:=h96.a.t9
  refine g0<|sP [(2,.slice p92 S.R.length cap93)] [pV s81,.slice p82 ((allE S.E).length) c83,.slice p92 S.R.length cap93] h99 fun _ h101=>g0<|dw (fls [0,1,2,3,4,5,6,7] (Tr.an 8 Tr.nil)) h101 fun _ h103=> ?_
  obtain⟨b104,hp105⟩:=sl_ptr0 (j:=1) h103 rfl om
  refine go [rd 12 3 0 2 1 h103,.v 12 5 (oIr (vn-1)),rd 12 6 7 0 8 h103,.s 12 7]<|lw (.pointer (some ⟨b104,((vn-1).toNat)*8,none⟩)) (fun _=>liP (Ot 62) (Ot 64) p92 b104 0 (vn-1) S.R.length cap93 underlying212 8 ((vn-1).toNat) hp105 (((vn-1).toNat)*8)) ?_
  have h106:=h103.a.t9
  refine actG ?_
  have hl109:=fl_n eRs_ok dc h106
  obtain⟨x110,hx111⟩: ∃x,S.R[((vn-1).toNat)]? =some x:=⟨_,List.getElem?_eq_getElem (by rw[hl109];omega)⟩
  refine an_storeSl (b:=b104) [(((vn-1).toNat)*8,iV x),(((vn-1).toNat)*8+1,iV y),(((vn-1).toNat)*8+2,uV z),(((vn-1).toNat)*8+3,iV st),(((vn-1).toNat)*8+4,iV why),(((vn-1).toNat)*8+5,iV tr),(((vn-1).toNat)*8+6,iV nx),(((vn-1).toNat)*8+7,.string (St L))] (cs':=(fl eRs (S.R.set ((vn-1).toNat) (⟨(x,y,z),st,why,tr,nx,L⟩:Rs)))) kr kr hp105 (allq ⟨⟨by omega,rfl⟩,⟨by omega,rfl⟩,⟨by omega,rfl⟩,⟨by omega,rfl⟩,⟨by omega,rfl⟩,⟨by omega,rfl⟩,⟨by omega,rfl⟩,⟨by omega,rfl⟩,trivial⟩) om (fl_upd eRs_ok (i:=((vn-1).toNat)) (x:=x110) (y:=(⟨(x,y,z),st,why,tr,nx,L⟩:Rs)) hx111 [(0,iV x),(1,iV y),(2,uV z),(3,iV st),(4,iV why),(5,iV tr),(6,iV nx),(7,.string (St L))] rfl rfl rfl) h106 ?_
  intro w107 h108
  refine⟨kd [],nxN ?_⟩
  refine g0 ?_
  have h113:sat g _ (Zr b n S.A (allE S.E) (S.R.set ((vn-1).toNat) (⟨(x,y,z),st,why,tr,nx,L⟩:Rs))::_):=zr_close (by rw[List.length_set];omega) lE (by rw[List.length_set]) h108.c.c.c.t9
  have hE_:setE S vn (⟨(x,y,z),st,why,tr,nx,L⟩:Rs)=0:=by unfold setE;rw[if_neg (fun h_=>h_ (show nE S vn=0 from if_pos om)),if_neg (fun h_=>h_ (show resR (⟨(x,y,z),st,why,tr,nx,L⟩:Rs)=0 from (show resE x y z st why tr nx L=0 from by omega))),if_neg (fun h_=>h_.elim (fun h1_=>h1_ (zky_eq (d:=(getR S vn).out) om).symm) fun h1_=>h1_ (of_decide_eq_true (decide_eq_true cs29))),if_neg (fun h_=>by have h1_: ¬st=1:=h_.1;have h2_:=h_.2;omega)]
  have hS_:setS S vn (⟨(x,y,z),st,why,tr,nx,L⟩:Rs)=⟨S.A,S.E,S.R.set (vn-1).toNat (⟨(x,y,z),st,why,tr,nx,L⟩:Rs)⟩:=if_pos hE_
  exact en (iV 0) [] ⟨_,[Zr b n S.A (allE S.E) (S.R.set ((vn-1).toNat) (⟨(x,y,z),st,why,tr,nx,L⟩:Rs))],rfl,⟨by rw[hE_],by rw[hS_]⟩,h113.e.a.t2⟩
 refine cl1 call73 (by have h_:=zget_ht b n S vn;rw[(show nE S vn=3 from if_neg om)] at h_;exact h_) h12.a.t3 fun _ h137=> ?_
 refine g0<|nP 149 [iV 0,iV 0,uV 0,iV 0,iV 0,iV 0,iV 0,.string (St [])] h137 (fun _ _ h140=> ?_)
 refine sA [iV ((getR S vn).out.1),iV ((getR S vn).out.2.1),uV ((getR S vn).out.2.2),iV ((getR S vn).st),iV ((getR S vn).why),iV ((getR S vn).tr),iV ((getR S vn).nx),.string (St ((getR S vn).tag))] h140 fun _ h142=>g0 ?_
 exact en (iV 3) [] ⟨_,[Zr b n S.A (allE S.E) S.R],rfl,(have hE_:setE S vn (⟨(x,y,z),st,why,tr,nx,L⟩:Rs)=3:=(if_pos (by rw[show nE S vn=3 from if_neg om];decide));⟨by rw[hE_],by rw[set_bad hE_ om]⟩),(tk2 (sf1 (sf3 h142.a.t4)))⟩
abbrev Fl:=Int×Int×Int
abbrev Xs:=List Fl
def sl2(x:Fl):Sl2:=(x.1,x.2.1)
def As(X:Xs):List Sl2:=X.map sl2
theorem as_len(X:Xs):(As X).length=X.length:=List.length_map _
theorem as_get{X:Xs}{i:Nat}{x:Fl}(h:X[i]? =some x):(As X)[i]? =some (x.1,x.2.1):=by
 unfold As
 rw[List.getElem?_map,h]
 rfl
theorem as_set(X:Xs)(i:Nat)(x:Fl):As (X.set i x)=(As X).set i (x.1,x.2.1):=List.map_set
def KGood(o:Ky):Prop:=1≤o.1∧o.1≤3∧0≤o.2.1∧o.2.1≤63∧1≤o.2.2
instance (o:Ky):Decidable (KGood o):=by unfold KGood;infer_instance
def errA(A:List Sl2)(o:Ky):Int:=if ¬KGood o∨o.1≠1 then 2 else if (A.length:Int)≤o.2.1 then 3 else if A[o.2.1.toNat]? =some (1,o.2.2) then 0 else 7
theorem chk_arg(A:List Sl2){x y z:Int}(h: ¬(1≤x∧x≤3∧0≤y∧y≤63∧1≤z)∨x≠1):errA A (x,y,z)=2:=if_pos h
theorem chk_range(A:List Sl2){n:Nat}(hn:A.length=n){x y z:Int}(hx:x=1)(h1:0≤y)(h2:y≤63)(h3:1≤z)(hr:(n:Int)≤y):errA A (x,y,z)=3:=by
 unfold errA
 rw[if_neg (by rintro(h|h);exact h ⟨by show 1≤x;omega,by show x≤3;omega,h1,h2,h3⟩;exact h hx),if_pos (by rw[hn];exact hr)]
theorem chk_in(A:List Sl2){q:Nat}{s:Sl2}{x y z:Int}(hx:x=1)(h2:y≤63)(h3:1≤z)(hq:y=(q:Int))(hs:A[q]? =some s):errA A (x,y,z)=if s.1=1∧s.2=z then 0 else 7:=by
 have hl:=(List.getElem?_eq_some_iff.1 hs).1
 obtain⟨s1,s2⟩:=s
 unfold errA
 rw[if_neg (by rintro(h|h);exact h ⟨by show 1≤x;omega,by show x≤3;omega,by show 0≤y;omega,h2,h3⟩;exact h hx),if_neg (by show ¬(_≤y);omega)]
 show (if A[y.toNat]? =some (1,z) then (0:Int) else 7)=_
 rw[hq,Int.toNat_natCast,hs]
 simp only[Option.some.injEq,Prod.mk.injEq]
theorem chk_ok(A:List Sl2){q:Nat}{s:Sl2}{x y z:Int}(hx:x=1)(h2:y≤63)(h3:1≤z)(hq:y=(q:Int))(hs:A[q]? =some s)(h:s.1=1∧s.2=z):errA A (x,y,z)=0:=by rw[chk_in A hx h2 h3 hq hs,if_pos h]
theorem chk_stale(A:List Sl2){q:Nat}{s:Sl2}{x y z:Int}(hx:x=1)(h2:y≤63)(h3:1≤z)(hq:y=(q:Int))(hs:A[q]? =some s)(h: ¬(s.1=1∧s.2=z)):errA A (x,y,z)=7:=by rw[chk_in A hx h2 h3 hq hs,if_neg h]
theorem chk_zero{A:List Sl2}{o:Ky}(h:errA A o=0):KGood o∧o.1=1∧o.2.1.toNat<A.length∧A[o.2.1.toNat]? =some (1,o.2.2):=by
 unfold errA at h
 split at h
 · exact absurd h dc
 · rename_i h1
   split at h
   · exact absurd h dc
   · split at h
     · rename_i h3
       simp only[not_or,Decidable.not_not] at h1
       exact⟨h1.1,h1.2,(List.getElem?_eq_some_iff.1 h3).1,h3⟩
     · exact absurd h dc
theorem chk_bd(A:List Sl2)(o:Ky):0≤errA A o∧errA A o≤7:=by
 unfold errA
 split
 · decide
 · split
   · decide
   · split<;>decide
def clsA(A:List Sl2)(o:Ky):List Sl2:=if errA A o=0 then giveA A o.2.1.toNat o.2.2 else A
def clsM(A:List Sl2)(E:Mm)(o:Ky):Mm:=if errA A o=0 then mdel E o else E
def shut(z:Int):Fl:=if z<4294967295 then (0,z+1,0) else (2,z,0)
def clsX(X:Xs)(o:Ky):Xs:=if errA (As X) o=0 then X.set o.2.1.toNat (shut o.2.2) else X
def allX(X:Xs):List Ky:=(inS 1 (As X) 0).map fun r=>(1,(r.1:Int),r.2)
def opnO(X:Xs)(v:Int):Ky:=if v<0∨65535<v then (0,0,0) else if 0<(inS 0 (As X) 0).length then (1,(((inS 0 (As X) 0).getD 0 (0,0)).1:Int),((inS 0 (As X) 0).getD 0 (0,0)).2) else (0,0,0)
def opnE(X:Xs)(v:Int):Int:=if v<0∨65535<v then 2 else if 0<(inS 0 (As X) 0).length then 0 else 4
def opnX(X:Xs)(v:Int):Xs:=if v<0∨65535<v then X else if 0<(inS 0 (As X) 0).length then X.set ((inS 0 (As X) 0).getD 0 (0,0)).1 (1,((inS 0 (As X) 0).getD 0 (0,0)).2,v) else X
theorem opn_arg{X:Xs}{v:Int}(h:v<0∨65535<v):opnO X v=(0,0,0)∧opnE X v=2∧opnX X v=X:=by
 unfold opnO opnE opnX
 rw[if_pos h,if_pos h,if_pos h]
 exact⟨rfl,rfl,rfl⟩
theorem opn_full{X:Xs}{v:Int}(h:0≤v∧v≤65535)(hf:(inS 0 (As X) 0).length=0):opnO X v=(0,0,0)∧opnE X v=4∧opnX X v=X:=by
 unfold opnO opnE opnX
 rw[if_neg om,if_neg om,if_neg om,if_neg om,if_neg om,if_neg om]
 exact⟨rfl,rfl,rfl⟩
theorem opn_ok{X:Xs}{v:Int}(h:0≤v∧v≤65535){i:Nat}{g:Int}(hi:(inS 0 (As X) 0)[0]? =some (i,g)):opnO X v=(1,(i:Int),g)∧opnE X v=0∧opnX X v=X.set i (1,g,v):=by
 have hl:=(List.getElem?_eq_some_iff.1 hi).1
 unfold opnO opnE opnX
 have h1: ¬(v<0∨65535<v):=by omega
 rw[if_neg h1,if_neg h1,if_neg h1,if_pos hl,if_pos hl,if_pos hl,getD_some hi]
 exact⟨rfl,rfl,rfl⟩
theorem opn_first{X:Xs}{i:Nat}{x:Fl}(hx:X[i]? =some x)(h0:x.1=0)(hc:cnt 0 (As X) i=0):(inS 0 (As X) 0)[0]? =some (i,x.2.1):=by
 have:=inS_at (as_get hx) h0
 rw[hc] at this
 exact this
theorem giveA_as(X:Xs)(q:Nat)(z:Int):giveA (As X) q z=As (X.set q (shut z)):=by
 rw[as_set]
 unfold giveA shut
 split<;>rfl
theorem clsA_as(X:Xs)(o:Ky):clsA (As X) o=As (clsX X o):=by
 unfold clsA clsX
 split
 · exact giveA_as X _ _
 · rfl
theorem mget_set(E:Mm)(k a:Ky)(v:Int):mget (mset E k v) a=if a=k then some v else mget E a:=by
 induction E with
 |nil=>simp only[mset,mget]
 |cons q E ih=>
  obtain⟨b,u⟩:=q
  simp only[mset]
  split
  · rename_i h
    subst h
    simp only[mget]
    split<;>rfl
  · rename_i h
    simp only[mget,ih]
    split
    · rename_i h1
      rw[if_neg (by rintro rfl;exact h h1)]
    · rfl
theorem mget_del{E:Mm}{k a:Ky}(h:a≠k):mget (mdel E k) a=mget E a:=by
 induction E with
 |nil=>rfl
 |cons q E ih=>
  obtain⟨b,u⟩:=q
  simp only[mdel]
  split
  · rename_i h1
    subst h1
    simp only[mget]
    rw[if_neg h]
  · simp only[mget,ih]
def Nums(X:Xs)(E:Mm):Prop:= ∀(i:Nat) (g v:Int),X[i]? =some (1,g,v)→mget E (1,(i:Int),g)=some v
theorem nums_nil{n:Nat}{g:Int}:Nums (List.replicate n (0,g,0)) []:=fun i a v h=>by
 have:=List.eq_of_mem_replicate (List.mem_of_getElem? h)
 simp only[Prod.mk.injEq] at this
 exact absurd this.1 dc
theorem set_cases{α:Type}{X:List α}{q i:Nat}{y x:α}(h:(X.set q y)[i]? =some x):(i=q∧x=y)∨(i≠q∧X[i]? =some x):=by
 by_cases hi:i=q
 · subst hi
   left
   have hl:i<X.length:=by
    have:=(List.getElem?_eq_some_iff.1 h).1
    simpa using this
   rw[List.getElem?_set_self hl] at h
   exact⟨rfl,(Option.some.inj h).symm⟩
 · right
   rw[List.getElem?_set_ne (fun h=>hi h.symm)] at h
   exact⟨hi,h⟩
theorem nums_open{X:Xs}{E:Mm}{q:Nat}{g v:Int}(h:Nums X E):Nums (X.set q (1,g,v)) (mset E (1,(q:Int),g) v):=fun i a u hi=>by
 rw[mget_set]
 rcases set_cases hi with ⟨rfl,h2⟩|⟨h1,h2⟩
 · simp only[Prod.mk.injEq] at h2
   obtain⟨_,rfl,rfl⟩:=h2
   rw[if_pos rfl]
 · rw[if_neg (by simp only[Prod.mk.injEq,not_and];intro _ h3;omega)]
   exact h i a u h2
theorem nums_close{X:Xs}{E:Mm}{o:Ky}(h:Nums X E):Nums (clsX X o) (clsM (As X) E o):=by
 unfold clsX clsM
 split
 · rename_i hc
   obtain⟨h1,h2,h3,h4⟩:=chk_zero hc
   intro i a u hi
   rcases set_cases hi with ⟨rfl,h5⟩|⟨h5,h6⟩
   · unfold shut at h5
     split at h5<;>(simp only[Prod.mk.injEq] at h5;exact absurd h5.1 dc)
   · rw[mget_del]
     · exact h i a u h6
     · rintro rfl
       exact h5 rfl
 · exact h
def eId(x:Fl):List Value:= [.bool (decide (x.1=1)),.bool (decide (x.1=2)),.int .u32 x.2.1,.int .i64 x.2.2]
theorem eId_ok:Enc 4 eId:=⟨fun _=>rfl,fun x v hv=>by simp[eId] at hv;rcases hv with rfl |rfl |rfl |rfl<;>rfl⟩
section
def Fd(b n:Nat)(X:Xs):Assn:=fun h=> ∃x:Nat×Nat×Mm,(Nums X x.2.2∧n≤64)∧star [Cl b [.pointer (some ⟨x.1,0,none⟩),.map (some x.2.1)] 259,Tb x.1 n (As X),Mp x.2.1 x.2.2] h
def Dc(b n:Nat)(X:Xs):Assn:=fun h=> ∃x:Option Addr×Nat,(X.length=n∧1≤n∧n≤64∧SlOk (As X))∧star [Cl b [.slice x.1 n x.2] 286,Sl 288 4 x.1 n x.2 (fl eId X)] h
section
variable {g w : World} {L : List Assn} {b n : Nat} {X : Xs}
theorem fd_open(h:sat g w (Fd b n X::L)): ∃s m E,(Nums X E∧n≤64)∧sat g w (Cl b [.pointer (some ⟨s,0,none⟩),.map (some m)] 259::Tb s n (As X)::Mp m E::L):=by
 obtain⟨⟨s,m,E⟩,h1,h2⟩:=sat_open (X:=Nat×Nat×Mm) (p:=fun x=>Nums X x.2.2∧n≤64) (B:=fun x=>star [Cl b [.pointer (some ⟨x.1,0,none⟩),.map (some x.2.1)] 259,Tb x.1 n (As X),Mp x.2.1 x.2.2]) h (fun k hk=>hk)
 exact⟨s,m,E,h1,sat_unstar h2⟩
theorem fd_close{s m:Nat}{E E':Mm}{A:List Sl2}(h1:Nums X E')(h2:n≤64)(hA:A=As X)(hE:E=E')(h:sat g w (Cl b [.pointer (some ⟨s,0,none⟩),.map (some m)] 259::Tb s n A::Mp m E::L)):sat g w (Fd b n X::L):=by
 subst hA
 subst hE
 exact sat_imp (sat_star (K:= [Cl b [.pointer (some ⟨s,0,none⟩),.map (some m)] 259,Tb s n (As X),Mp m E]) h) fun k hk=>⟨(s,m,E),⟨h1,h2⟩,hk⟩
theorem dc_open(h:sat g w (Dc b n X::L)): ∃p c,(X.length=n∧1≤n∧n≤64∧SlOk (As X))∧sat g w (Cl b [.slice p n c] 286::Sl 288 4 p n c (fl eId X)::L):=by
 obtain⟨⟨p,c⟩,h1,h2⟩:=sat_open (X:=Option Addr×Nat) (p:=fun _=>X.length=n∧1≤n∧n≤64∧SlOk (As X)) (B:=fun x=>star [Cl b [.slice x.1 n x.2] 286,Sl 288 4 x.1 n x.2 (fl eId X)]) h (fun k hk=>hk)
 exact⟨p,c,h1,sat_unstar h2⟩
theorem dc_close{p:Option Addr}{c:Nat}(h1:X.length=n∧1≤n∧n≤64∧SlOk (As X))(h:sat g w (Cl b [.slice p n c] 286::Sl 288 4 p n c (fl eId X)::L)):sat g w (Dc b n X::L):=
 sat_imp (sat_star (K:= [Cl b [.slice p n c] 286,Sl 288 4 p n c (fl eId X)]) h) fun k hk=>⟨(p,c),h1,hk⟩
end
theorem cls_no{A:List Sl2}{o:Ky}{e:Int}(h:errA A o=e)(he:e≠0):clsA A o=A:=by
 unfold clsA
 rw[if_neg om]
theorem cls_ok{A:List Sl2}{x y z:Int}{q:Nat}(h:errA A (x,y,z)=0)(hq:y=(q:Int)):clsA A (x,y,z)=giveA A q z:=by
 unfold clsA
 rw[if_pos h]
 show giveA A y.toNat z=_
 rw[hq,Int.toNat_natCast]
theorem clsm_no{A:List Sl2}{E:Mm}{o:Ky}(h: ¬errA A o=0):E=clsM A E o:=(if_neg h).symm
theorem clsm_ok{A:List Sl2}{E:Mm}{o:Ky}(h:errA A o=0):mdel E o=clsM A E o:=(if_pos h).symm
theorem slOk_as{X:Xs}{i:Nat}{x:Fl}(h:SlOk (As X))(hx:X[i]? =some x):0≤x.1∧x.1≤2∧1≤x.2.1∧x.2.1≤4294967295:=h _ (List.mem_of_getElem? (as_get hx))
theorem made_y(b s m:Nat):HQ 188 [pV b] [Cl b [pV s,.map (some m)] 259] (.bool true) [Cl b [pV s,.map (some m)] 259]:=by
 refine hiS func188 ntmps188 fun g w0 R h0=>go [rd 1 6 0 0 1 h0] ?_
 exact enR _ [] h0
theorem ffile(y z:Int):HQ 253 [.agg #[iV y,uV z]] [] (.agg #[iV 1,iV y,uV z]) []:=by
 refine hiS func253 ntmps253 fun g w0 R h0=>g0<|nP 148 [iV y,uV z] h0 (fun _ _ h12=> ?_)
 refine nP 72 [iV 0,iV 0,uV 0] h12 (fun _ _ h15=> ?_)
 refine go [rd 1 1 1 0 1 h15,rd 1 3 1 1 1 h15]<|sA [iV 1,iV y,uV z] h15 fun _ h17=>g0 ?_
 exact enR _ [rd 0 0 0 0 3 h17] h17.b.t1
theorem cls1_ht(c2 c5 b s m n:Nat)(A:List Sl2)(q:Nat)(a:Sl2)(ha:A[q]? =some a)(i gn:Int)(hc:i=(q:Int)∧a.1=1∧a.2=gn):HQ 278 [.agg #[iV i,uV gn],pV c2,pV c5] [Cl c2 [pV b] 177,Cl c5 [iV 0] 38,Cl b [pV s,.map (some m)] 259,Tb s n A] (.tuple #[]) [Cl c2 [pV b] 177,Cl c5 [iV 0] 38,Cl b [pV s,.map (some m)] 259,Tb s n (giveA A q gn)]:=by
 refine hiS func278 ntmps278 fun g w0 R h0=>g0<|nP 148 [iV i,uV gn] h0 (fun _ _ h12=> ?_)
 refine g0<|dw (fls [0,1,2,3,4] (Tr.an 5 (Tr.an 6 Tr.nil))) h12 fun _ h14=> ?_
 have h15:=h14.d.t6
 refine go [rd 1 0 1 0 1 h14,rd 1 3 3 0 1 h14,rd 1 4 0 0 2 h14]<|cw1 call197 (give_ht s n A q a ha i gn om) h15 fun _ h17=>⟨kd [],?_⟩
 refine sB [iV 0] h17.c.t6 fun _ h20=>⟨kd [],?_⟩
 refine g0 ?_
 exact enR _ [] (tk5 (sf4 (sf4 (sf4 (sf4 (sf5 h20.d.a.d.t6))))))
theorem with_c(c2 c3 c5 c6 b s m n:Nat)(A:List Sl2)(E:Mm)(x y z:Int)(hz0:0≤z)(hz1:z≤4294967295):HQ 277 [pV b,.agg #[iV x,iV y,uV z],.func (Fn.func 278) #[] #[pV c2,pV c5]] [Cl c2 [pV b] 177,Cl c5 [iV 0] 38,Cl b [pV s,.map (some m)] 259,Tb s n A] (iV (errA A (x,y,z))) [Cl c2 [pV b] 177,Cl c5 [iV 0] 38,Cl b [pV s,.map (some m)] 259,Tb s n (clsA A (x,y,z))]:=by
 refine hiS func277 ntmps277 fun g w0 R h0=> ?_
 have hb10:=tb_bd (j:=3) h0 rfl
 have hAl_:=hb10.1;have hb11:=hb10.2.1;have hb12:=hb10.2.2.1;have hok_:=hb10.2.2.2
 refine g0<|nP 72 [iV x,iV y,uV z] h0 (fun _ _ h15=> ?_)
 refine go [rd 1 1 0 1 1 h15,rd 1 3 0 2 1 h15]<|nP 148 [iV 0,uV 0] h15 (fun _ _ h18=> ?_)
 refine sA [iV y,uV z] h18 fun _ h20=> ?_
 have h21:=h20.d.t7
 refine g0<|cl1 call188 (made_y b s m) h21 fun _ h23=>go [rd 4 0 2 0 3 h23] ?_
 by_cases c24:1≤x;rotate_left
 ·
  refine cl0 call192 (couter_no x y z om om om) h23 fun _ h83=>g0 ?_
  have he_:errA A (x,y,z)=2:=chk_arg A om
  have hc_:clsA A (x,y,z)=A:=cls_no he_ dc
  exact en (iV 2) [] ⟨_,[Cl c2 [pV b] 177,Cl c5 [iV 0] 38,Cl b [pV s,.map (some m)] 259,Tb s n A],rfl,⟨by rw[he_],by rw[hc_]⟩,(tk5 (sf4 (sf4 (sf4 (sf4 (sf6 h83.e.a.e.e.t7))))))⟩
 by_cases c25:x≤3;rotate_left
 ·
  refine cl0 call192 (couter_no x y z om om om) h23 fun _ h79=>g0 ?_
  have he_:errA A (x,y,z)=2:=chk_arg A om
  have hc_:clsA A (x,y,z)=A:=cls_no he_ dc
  exact en (iV 2) [] ⟨_,[Cl c2 [pV b] 177,Cl c5 [iV 0] 38,Cl b [pV s,.map (some m)] 259,Tb s n A],rfl,⟨by rw[he_],by rw[hc_]⟩,(tk5 (sf4 (sf4 (sf4 (sf4 (sf6 h79.e.a.e.e.t7))))))⟩
 by_cases c26:0≤y;rotate_left
 ·
  refine cl0 call192 (couter_no x y z om om om) h23 fun _ h75=>g0 ?_
  have he_:errA A (x,y,z)=2:=chk_arg A om
  have hc_:clsA A (x,y,z)=A:=cls_no he_ dc
  exact en (iV 2) [] ⟨_,[Cl c2 [pV b] 177,Cl c5 [iV 0] 38,Cl b [pV s,.map (some m)] 259,Tb s n A],rfl,⟨by rw[he_],by rw[hc_]⟩,(tk5 (sf4 (sf4 (sf4 (sf4 (sf6 h75.e.a.e.e.t7))))))⟩
 by_cases c27:y≤63;rotate_left
 ·
  refine cl0 call192 (couter_no x y z om om om) h23 fun _ h71=>g0 ?_
  have he_:errA A (x,y,z)=2:=chk_arg A om
  have hc_:clsA A (x,y,z)=A:=cls_no he_ dc
  exact en (iV 2) [] ⟨_,[Cl c2 [pV b] 177,Cl c5 [iV 0] 38,Cl b [pV s,.map (some m)] 259,Tb s n A],rfl,⟨by rw[he_],by rw[hc_]⟩,(tk5 (sf4 (sf4 (sf4 (sf4 (sf6 h71.e.a.e.e.t7))))))⟩
 by_cases c28:1≤z;rotate_left
 ·
  refine cl0 call192 (couter_no x y z om om om) h23 fun _ h67=>g0 ?_
  have he_:errA A (x,y,z)=2:=chk_arg A om
  have hc_:clsA A (x,y,z)=A:=cls_no he_ dc
  exact en (iV 2) [] ⟨_,[Cl c2 [pV b] 177,Cl c5 [iV 0] 38,Cl b [pV s,.map (some m)] 259,Tb s n A],rfl,⟨by rw[he_],by rw[hc_]⟩,(tk5 (sf4 (sf4 (sf4 (sf4 (sf6 h67.e.a.e.e.t7))))))⟩
 refine cl0 call192 (couter_ok x y z om om om) h23 fun _ h30=>go [rd 4 5 2 0 1 h30,.s 4 6] ?_
 by_cases c31:x=1;rotate_left
 ·
  refine go [.v 4 6 (qnT x 1)] ?_
  have he_:errA A (x,y,z)=2:=chk_arg A om
  have hc_:clsA A (x,y,z)=A:=cls_no he_ dc
  exact en (iV 2) [] ⟨_,[Cl c2 [pV b] 177,Cl c5 [iV 0] 38,Cl b [pV s,.map (some m)] 259,Tb s n A],rfl,⟨by rw[he_],by rw[hc_]⟩,(tk5 (sf4 (sf4 (sf4 (sf4 (sf6 h30.e.a.e.e.t7))))))⟩
 refine go [.v 4 6 (qnF x 1)]<|dw (fls [0,1,2,3,4] (Tr.an 5 (Tr.fl 6 Tr.nil))) h30 fun _ h33=>go [rd 6 3 0 0 1 h33,rd 6 4 1 0 2 h33] ?_
 by_cases c34:y<(n:Int);rotate_left
 ·
  refine cw1 call248 (check_range s n A y z om) h33.e.t7 fun _ h61=>⟨kd [],?_⟩
  refine g0 ?_
  have he_:errA A (x,y,z)=3:=chk_range A hAl_ om om om om om
  have hc_:clsA A (x,y,z)=A:=cls_no he_ dc
  exact en (iV 3) [] ⟨_,[Cl c2 [pV b] 177,Cl c5 [iV 0] 38,Cl b [pV s,.map (some m)] 259,Tb s n A],rfl,⟨by rw[he_],by rw[hc_]⟩,(tk5 (sf4 (sf4 (sf4 (sf4 (sf6 h61.a.e.e.t7))))))⟩
 obtain⟨kk35,hk36⟩: ∃z_:Nat,y=(z_:Int):=⟨(y).toNat,by omega⟩
 obtain⟨x37,hx38⟩: ∃x:Sl2,A[kk35]? =some x:=⟨_,List.getElem?_eq_getElem (by rw[hAl_];omega)⟩
 have hb39:=hok_ x37 (List.mem_of_getElem? hx38)
 by_cases c40:x37.1=1
 ·
  by_cases c41:x37.2=z
  ·
   refine cw1 call248 (check_ok s n A kk35 x37 hx38 y z om) h33.e.t7 fun _ h44=>⟨kd [],?_⟩
   have h45:=h44.a.e.e.t7
   refine go [rd 9 1 2 0 2 h44]<|cl4 call278 (cls1_ht c2 c5 b s m n A kk35 x37 hx38 y z om) h45 fun _ h47=>g0 ?_
   have he_:errA A (x,y,z)=0:=chk_ok A om om om om hx38 om
   have hc_:clsA A (x,y,z)=(giveA A kk35 z):=cls_ok he_ om
   exact en (iV 0) [] ⟨_,[Cl c2 [pV b] 177,Cl c5 [iV 0] 38,Cl b [pV s,.map (some m)] 259,Tb s n (giveA A kk35 z)],rfl,⟨by rw[he_],by rw[hc_]⟩,h47.F.E.t5⟩
  refine cw1 call248 (check_stale s n A kk35 x37 hx38 y z om) h33.e.t7 fun _ h51=>⟨kd [],?_⟩
  refine g0 ?_
  have he_:errA A (x,y,z)=7:=chk_stale A om om om om hx38 om
  have hc_:clsA A (x,y,z)=A:=cls_no he_ dc
  exact en (iV 7) [] ⟨_,[Cl c2 [pV b] 177,Cl c5 [iV 0] 38,Cl b [pV s,.map (some m)] 259,Tb s n A],rfl,⟨by rw[he_],by rw[hc_]⟩,(tk5 (sf4 (sf4 (sf4 (sf4 (sf6 h51.a.e.e.t7))))))⟩
 refine cw1 call248 (check_stale s n A kk35 x37 hx38 y z om) h33.e.t7 fun _ h56=>⟨kd [],?_⟩
 refine g0 ?_
 have he_:errA A (x,y,z)=7:=chk_stale A om om om om hx38 om
 have hc_:clsA A (x,y,z)=A:=cls_no he_ dc
 exact en (iV 7) [] ⟨_,[Cl c2 [pV b] 177,Cl c5 [iV 0] 38,Cl b [pV s,.map (some m)] 259,Tb s n A],rfl,⟨by rw[he_],by rw[hc_]⟩,(tk5 (sf4 (sf4 (sf4 (sf4 (sf6 h56.a.e.e.t7))))))⟩
end
end Go.Proofs.YtehlamblpekmkaaGreatDoor
