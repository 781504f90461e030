/-
  A map that is being copied, entry by entry. No program in sight.
-/
import Derived.Test.YtcgkoffnknpgjaaGreatDoorBundle27
import Derived.Test.YtcgkoffnknpgjaaGreatDoorHq
import Derived.Test.YtcgkoffnknpgjaaGreatDoorMrg
import Derived.Test.YtcgkoffnknpgjaaGreatDoorBundle29
import Derived.Test.YtcgkoffnknpgjaaGreatDoorFdsP
import Derived.Test.YtcgkoffnknpgjaaGreatDoorCln
import Derived.Test.YtcgkoffnknpgjaaGreatDoorBundle22
namespace Go.Proofs.YtcgkoffnknpgjaaGreatDoor
set_option linter.unusedVariables false
set_option linter.unusedSimpArgs false
open Tryz
set_option maxHeartbeats 4000000
structure Part (E0 S Ec:Tm):Prop where
 k0:KN E0
 kc:KN Ec
 ks:KN S
 mem: ∀q∈S,gget E0 q.1=some q.2
 has: ∀k:Int,gget Ec k=if k∈S.map (·.1) then none else gget E0 k
theorem gget_mem{E:Tm}(h:KN E){q:Int×Ety}(hq:q∈E):gget E q.1=some q.2:=by
 induction E with
 |nil=>cases hq
 |cons p E ih=>
  obtain⟨a,v⟩:=p
  have h':(a::E.map (·.1)).Nodup:=h
  obtain⟨h1,h2⟩:=List.nodup_cons.1 h'
  simp only[gget]
  rcases List.mem_cons.1 hq with rfl |h3
  · rw[if_pos rfl]
  · have hne:a≠q.1:=fun he=>h1 (he▸List.mem_map_of_mem h3)
    rw[if_neg (Ne.symm hne)]
    exact ih h2 h3
theorem part_start{E0 E:Tm}(h:Meq E0 E):Part E0 E0 []:=by
 refine⟨h.1,List.nodup_nil,h.1,fun q hq=>gget_mem h.1 hq,fun k=> ?_⟩
 split
 · rfl
 · rename_i hk
   rw[gget_none.2 hk]
   rfl
theorem part_go{E0 S Ec:Tm}(h:Part E0 S Ec){i:Nat}{q:Int×Ety}(hq:S[i]? =some q):Part E0 (S.eraseIdx i) (gset Ec q.1 q.2):=by
 have hkn:(S.map (·.1)).Nodup:=h.ks
 have hi:=(List.getElem?_eq_some_iff.1 hq).1
 have hki:(S.map (·.1))[i]? =some q.1:=by rw[List.getElem?_map,hq];rfl
 have hkil:i<(S.map (·.1)).length:=by rw[List.length_map];exact hi
 have hmk:(S.eraseIdx i).map (·.1)=(S.map (·.1)).eraseIdx i:=erase_map _ _ _
 refine⟨h.k0,kn_set h.kc,?_,fun p hp=>h.mem p (List.eraseIdx_subset hp),fun k=> ?_⟩
 · unfold KN
   rw[hmk]
   exact List.Nodup.sublist (List.eraseIdx_sublist _ _) hkn
 · rw[gget_set,hmk]
   have hik:(S.map (·.1))[i]=q.1:=(List.getElem?_eq_some_iff.1 hki).2
   split
   · rename_i hk
     subst hk
     have hno:q.1∉(S.map (·.1)).eraseIdx i:=by
      rw[←hik]
      intro h2
      obtain⟨j,hj,hji,hjk⟩:=List.mem_eraseIdx_iff_getElem.1 h2
      exact hji ((List.getElem_inj hkn).1 hjk)
     rw[if_neg hno]
     exact(h.mem q (List.mem_of_getElem? hq)).symm
   · rename_i hk
     rw[h.has]
     have hiff:k∈(S.map (·.1)).eraseIdx i↔k∈S.map (·.1):=by
      constructor
      · exact fun h2=>List.eraseIdx_subset h2
      · intro h2
        obtain⟨j,hj,hjk⟩:=List.getElem_of_mem h2
        exact List.mem_eraseIdx_iff_getElem.2 ⟨j,hj,fun he=>hk (by subst he;rw[←hjk,hik]),hjk⟩
     by_cases h3:k∈S.map (·.1)
     · rw[if_pos h3,if_pos (hiff.2 h3)]
     · rw[if_neg h3,if_neg fun h4=>h3 (hiff.1 h4)]
theorem part_end{E0 E Ec:Tm}(h:Part E0 [] Ec)(hM:Meq E0 E):Meq Ec E:=⟨h.kc,hM.2.1,fun k=>by
 rw[h.has,if_neg (by simp),hM.2.2]⟩
theorem numsT_go{R:List Rs}{st:Int}{k:Nat}{r:Rs}(hr:R[k]? =some r)(h:r.st=st):numsT R st k++ [(k:Int)+1]=numsT R st (k+1):=by
 unfold numsT
 rw[List.range_succ,List.filter_append,List.map_append]
 simp[hr,h]
theorem numsT_no{R:List Rs}{st:Int}{k:Nat}{r:Rs}(hr:R[k]? =some r)(h:r.st≠st):numsT R st k=numsT R st (k+1):=by
 unfold numsT
 rw[List.range_succ,List.filter_append,List.map_append]
 simp[hr,h]
theorem set_bad{S:Ts}{v:Int}{r:Rs}{e:Int}(h:setE S v r=e)(he:e≠0):setS S v r=S:=by
 unfold setS
 rw[if_neg om]
theorem terase_len{α:Type}{S:List α}{i:Nat}{q:α}(h:S[i]? =some q):(S.eraseIdx i).length+1=S.length:=by
 have:=(List.getElem?_eq_some_iff.1 h).1
 rw[List.length_eraseIdx,if_pos this]
 omega
theorem tnums_ht(b n:Nat)(A:List Sl2)(E:Tm)(RL:List Rs)(vn:Int):HT prog 55 [pV b,iV vn] [Tab b n A E RL] (fun v K=> ∃(p:Option Addr) (c:Nat),v= .slice p ((nums RL vn).length) c∧K= [Tab b n A E RL,Sl 3 1 p ((nums RL vn).length) c (fl eI (nums RL vn))]):=by
 refine hiS func55 ntmps55 fun g w0 R h0=>g0<|cl1 call119 (tvalid_ht b n A E RL) h0 fun w10 h11=> ?_
 obtain⟨s12,m13,p14,c15,E16,hM17,h18⟩:=tab_open h11
 have hRl_:=hM17.2
 refine go [rd 4 3 0 2 1 h18] ?_
 have h19:=h18.c.t5
 have hl20:=fl_n eRs_ok dc h19
 have h21:sat g _ (Sl 3 1 none 0 0 (fl eI [])::_):=sl_nil 3 1 h19
 refine lpS (fun mz_ a w=> ∃k:Nat,∃p2:Option Addr,∃m2:Nat,∃c2:Nat,∃lr:Fr,mz_=RL.length-k∧(k≤RL.length)∧(m2≤k)∧a=mk 32 (([(1,iV vn),(5,.slice p2 m2 c2),(14,.slice p14 RL.length c15),(15,iV (RL.length:Int)),(16,iV k)]:Fr)++lr)∧sat g w [Sl 3 1 p2 m2 c2 (fl eI (numsT RL vn k)),Sl 226 8 p14 RL.length c15 (fl eRs RL),Cl b [pV s12,.map (some m13),.slice p14 RL.length c15] 177,Tb s12 n A,Gp kI vE m13 E16,R]) (RL.length-0) ⟨0,none,0,0,_,rfl,(Nat.zero_le _),(Nat.le_refl _),(lvF [.k 1 (iV vn),.k 5 (.slice none 0 0),.k 14 (.slice p14 RL.length c15),.k 15 (iV (RL.length:Int)),.o 16 (oJ .i64 0 (0:Int))]),h21⟩ ?_
 rintro m23 a24 w25 ⟨k,p2,m2,c2,lr22,rfl,hk,hm2,rfl,h26⟩
 refine ga<|go [.s 5 0] ?_
 by_cases c27:(k:Int)<(RL.length:Int)
 ·
  obtain⟨b28,hp29⟩:=sl_ptr0 (j:=1) h26 rfl om
  refine go [.v 5 0 (oT _ c27),.s 6 1]<|lwP (.pointer (some ⟨b28,k*8,none⟩)) (liP (Ot 14) (Ot 16) p14 b28 0 (k:Int) RL.length c15 underlying175 8 k hp29 (k*8)) ?_
  obtain⟨x30,hx31⟩: ∃x,RL[k]? =some x:=⟨_,List.getElem?_eq_getElem (by rw[hl20];omega)⟩
  refine go [.r 6 2 b28 (k*8) [iV x30.out.1,iV x30.out.2.1,uV x30.out.2.2,iV x30.st,iV x30.why,iV x30.tr,iV x30.nx,.string (St x30.tag)] ⟨gvc 1 h26 rfl hp29 eRs_ok 0 (iV x30.out.1) hx31 (k*8),gvc 1 h26 rfl hp29 eRs_ok 1 (iV x30.out.2.1) hx31 (k*8+1),gvc 1 h26 rfl hp29 eRs_ok 2 (uV x30.out.2.2) hx31 (k*8+2),gvc 1 h26 rfl hp29 eRs_ok 3 (iV x30.st) hx31 (k*8+3),gvc 1 h26 rfl hp29 eRs_ok 4 (iV x30.why) hx31 (k*8+4),gvc 1 h26 rfl hp29 eRs_ok 5 (iV x30.tr) hx31 (k*8+5),gvc 1 h26 rfl hp29 eRs_ok 6 (iV x30.nx) hx31 (k*8+6),gvc 1 h26 rfl hp29 eRs_ok 7 (.string (St x30.tag)) hx31 (k*8+7),trivial⟩]<|nP 226 [iV 0,iV 0,uV 0,iV 0,iV 0,iV 0,iV 0,.string (St [])] h26 (fun r32 _ h34=> ?_)
  refine g0<|sA [iV x30.out.1,iV x30.out.2.1,uV x30.out.2.2,iV x30.st,iV x30.why,iV x30.tr,iV x30.nx,.string (St x30.tag)] h34 fun w35 h36=>go [rd 7 1 0 3 1 h36,.s 7 3] ?_
  by_cases c37:x30.st=vn
  ·
   refine go [.v 7 3 (qeT _ _ c37),.v 8 2 (oIr ((k:Int)+1))]<|nG (fun q_=> .slice (some ⟨q_,0,none⟩) 1 1) 3 [iV ((k:Int)+1)] h36 (fun r38 _ h40=>⟨kd [],?_⟩)
   have h41:=h40.b.t8
   refine actG ?_
   refine aA 29 1 (Ot 25) (Ot 28) (iV 0) p2 m2 c2 1 1 (⟨r38,0,none⟩) 8 underlying134 h41 (fl eI [(k:Int)+1]) rfl (cell1 h41 rfl) (fl_one eI_ok _) (m2+1) ?_
   intro p42 cap43 w44 h45
   have h46:sat g _ (Sl 3 1 p42 (m2+1) cap43 (fl eI ((numsT RL vn k)++ [(k:Int)+1]))::_):=sJ h45
   obtain⟨hn47,hn48⟩:=sl_le h46
   refine nxA<|go [.v 9 0 (oIr ((k:Int)+1))] ?_
   refine enL ?_
   have h49:sat g _ (Sl 3 1 p42 (m2+1) cap43 (fl eI (numsT RL vn (k+1)))::_):=sat_imp h46 (fun _ hh_=>by rw[show (((numsT RL vn k)++ [(k:Int)+1]):List Int)=(numsT RL vn (k+1)) from numsT_go hx31 om] at hh_;exact hh_)
   have h51:=tk6 h49.x.x.x.x.x.e.t8
   change ∃n',n'<_∧_
   refine⟨(RL.length-(k+1)),by omega,(k+1),p42,m2+1,cap43,_,rfl,om,om,(lvF [.k 1 (iV vn),.k 5 (.slice p42 (m2+1) cap43),.k 14 (.slice p14 RL.length c15),.k 15 (iV (RL.length:Int)),.o 16 (oJ .i64 ((k:Int)+1) (((k+1):Nat):Int))]),h51⟩
  refine go [.v 7 3 (qeF _ _ c37),.v 9 0 (oIr ((k:Int)+1))] ?_
  refine enL ?_
  have h53:sat g _ (Sl 3 1 p2 m2 c2 (fl eI (numsT RL vn (k+1)))::_):=sat_imp h36.a.t7 (fun _ hh_=>by rw[show ((numsT RL vn k):List Int)=(numsT RL vn (k+1)) from numsT_no hx31 om] at hh_;exact hh_)
  have h55:=tk6 h53.f.f.f.f.f.e.t7
  change ∃n',n'<_∧_
  refine⟨(RL.length-(k+1)),by omega,(k+1),p2,m2,c2,_,rfl,om,om,(lvF [.k 1 (iV vn),.k 5 (.slice p2 m2 c2),.k 14 (.slice p14 RL.length c15),.k 15 (iV (RL.length:Int)),.o 16 (oJ .i64 ((k:Int)+1) (((k+1):Nat):Int))]),h55⟩
 refine go [.v 5 0 (oF _ c27)]<|up<|g0 ?_
 have h56:sat g _ (Sl 3 1 p2 m2 c2 (fl eI (nums RL vn))::_):=sat_imp h26 (fun _ hh_=>by rw[show ((numsT RL vn k):List Int)=(nums RL vn) from (by rw[show k=RL.length from by omega];rfl)] at hh_;exact hh_)
 have hl57:=fl_n eI_ok dc h56
 have h58:sat g _ (Sl 3 1 p2 ((nums RL vn).length) c2 (fl eI (nums RL vn))::_):=sat_imp h56 (fun _ hh_=>by rw[hl57];exact hh_)
 have h60:sat g _ (Tab b n A E RL::_):=tab_close hM17.1 om (by first|rfl |omega) h58.a.d.d.d.t6
 exact en (.slice p2 m2 c2) [] ⟨_,_,rfl,⟨p2,c2,by rw[hl57],rfl⟩,h60⟩
theorem rclone_nil(c:Nat)(X:Assn):HT prog 121 [.slice none 0 c] [X] (fun v K=> ∃(p:Option Addr) (c:Nat),v= .slice p 0 c∧K= [Sl 226 8 p 0 c (fl eRs []),X]):=by
 refine hiS func121 ntmps121 fun g w0 R h0=>g0 ?_
 have h10:sat g _ (Sl 226 8 none 0 0 (fl eRs [])::_):=sl_nil 226 8 h0
 exact en (.slice none 0 0) [] ⟨_,_,rfl,⟨none,0,rfl,rfl⟩,h10⟩
theorem rclone_some(a:Addr)(p:Option Addr)(hp:p=some a)(n c:Nat)(L:List Rs)(X:Assn)(hX:Gv X p n (fl eRs L))(hL:L.length=n)(hn:n≤1000000):HT prog 121 [.slice p n c] [X] (fun v K=> ∃(p:Option Addr) (c:Nat),v= .slice p n c∧K= [Sl 226 8 p n c (fl eRs L),X]):=by
 refine hiS func121 ntmps121 fun g w0 R h0=>go [.s 1 1]<|lwP (.bool false) (law_sliceSome (x:=Ot 3) (y:=(Operand.const (.slice none 0 0))) (m:=n) (c:=c) kr underlying175 kr hp kr _)<|g0<|nG (fun q_=> .slice (some ⟨q_,0,none⟩) 0 0) 226 [] h0 (fun r10 w11 h12=>⟨kd [],?_⟩)
 have h13:sat g _ (Sl 226 8 (some ⟨r10,0,none⟩) 0 0 (fl eRs [])::_):=sl_of_cl h12 rfl om
 refine g0 ?_
 refine actG ?_
 refine aG 7 8 (Ot 5) (Ot 6) (.agg #[iV 0,iV 0,uV 0,iV 0,iV 0,iV 0,iV 0,.string (St [])]) (some ⟨r10,0,none⟩) p 0 0 n c 72 underlying175 h13 1 rfl (fl eRs L) hX (by rw[fl_len eRs_ok,hL]) (fl_one eRs_ok _) n ?_
 intro p14 cap15 w16 h17
 have h18:sat g _ (Sl 226 8 p14 n cap15 (fl eRs L)::_):=sI h17
 obtain⟨hn19,hn20⟩:=sl_le h18
 refine nxA<|g0 ?_
 exact en (.slice p14 n cap15) [] ⟨_,_,rfl,⟨p14,cap15,rfl,rfl⟩,h18⟩
theorem rclone_ht(p:Option Addr)(n c:Nat)(L:List Rs)(X:Assn)(hX:Gv X p n (fl eRs L))(hL:L.length=n)(hn:n≤1000000):HT prog 121 [Value.slice p n c] [X] (fun v K=> ∃(p:Option Addr) (c:Nat),v=Value.slice p n c∧K= [Sl 226 8 p n c (fl eRs L),X]):=by
 cases p with
 |none=>
  have hn0:n=0∨0<n:=by omega
  rcases hn0 with hn0|hn0
  · have hl0:L= []:=List.eq_nil_of_length_eq_zero om
    subst hl0
    subst hn0
    exact rclone_nil c X
  · intro g w F hs
    obtain⟨b,off,h1⟩:=gv_ptr (j:=0) hs rfl hX hn0
    cases h1
 |some a=>exact rclone_some a _ rfl n c L X hX hL hn
theorem tcopy_ht(b n:Nat)(A:List Sl2)(E:Tm)(RL:List Rs):HT prog 47 [pV b] [Tab b n A E RL] (fun v K=> ∃b2:Nat,v=pV b2∧K= [Tab b n A E RL,Tab b2 n A E RL]):=by
 refine hiS func47 ntmps47 fun g w0 R h0=>g0<|cl1 call119 (tvalid_ht b n A E RL) h0 fun _ h11=>go [.s 3 100000] ?_
 obtain⟨s12,m13,p14,c15,E16,hM17,h18⟩:=tab_open h11
 have hRl_:=hM17.2
 have h19:=h18.c.t5
 have hl20:=fl_n eRs_ok dc h19
 refine jnS (fun a w=> ∃rb:Nat,∃s2:Nat,∃r2:Nat,∃p2:Option Addr,∃c2:Nat,∃lr:Fr,a=mk 39 (([(0,pV b),(3,pV rb)]:Fr)++lr)∧sat g w [Cl rb [pV s2,.map (some r2),.slice p2 RL.length c2] 177,Tb s2 n A,Gp kI vE r2 [],Sl 226 8 p2 RL.length c2 (fl eRs RL),Cl b [pV s12,.map (some m13),.slice p14 RL.length c15] 177,Tb s12 n A,Gp kI vE m13 E16,Sl 226 8 p14 RL.length c15 (fl eRs RL),R]) ?_ ?_
 ·
  refine g0<|dw (fls [0,1,2,3,6,7,8,9] (Tr.an2 4 (Tr.an2 5 (Tr.an 10 (Tr.fl 11 (Tr.an 12 (Tr.fl 13 Tr.nil)))) 10 (Tr.an 5 (Tr.fl 11 (Tr.an 12 (Tr.fl 13 Tr.nil))))) 5 (Tr.an 4 (Tr.an 10 (Tr.fl 11 (Tr.an 12 (Tr.fl 13 Tr.nil))))))) h19 fun _ h22=>go [rd 3 3 1 0 1 h22,rd 3 9 1 2 1 h22] ?_
  refine br2 ?_ ?_
  ·
   refine cG call120 (scopy_ht s12 n A) h22.b.t5 ?_
   rintro v K _ (⟨b23,rfl,rfl⟩) h26
   have h27:=ap2 h26
   refine⟨kd [rd 0 9 3 2 1 h27],?_⟩
   refine br2 ?_ ?_
   ·
    refine actG ?_
    refine ag_makeMap (t:=174) (d:=14) kI vE kr kr rfl h27 ?_
    intro r28 _ h30
    refine⟨kd [rd 0 9 4 2 1 h30],nxG ?_⟩
    refine cG call121 (rclone_ht p14 RL.length c15 RL (Sl 226 8 p14 RL.length c15 (fl eRs RL)) (gv_sl _ _ _) hl20 om) h30.c.t7 ?_
    rintro v K _ (⟨p31,c32,rfl,rfl⟩) h35
    have h36:=ap2 h35
    refine⟨kd [],?_⟩
    refine g0<|nG (fun q_=>pV q_) 177 [pV b23,.map (some r28),.slice p31 RL.length c32] h36 (fun r37 _ h39=>⟨kd [],?_⟩)
    refine g0 ?_
    refine enL ?_
    exact⟨r37,b23,r28,p31,c32,_,(lvF [.k 0 (pV b),.k 3 (pV r37)]),h39.x.e.x.d.f.x.f.t9⟩
   refine cG call121 (rclone_ht p14 RL.length c15 RL (Sl 226 8 p14 RL.length c15 (fl eRs RL)) (gv_sl _ _ _) hl20 om) h27.b.t6 ?_
   rintro v K _ (⟨p41,c42,rfl,rfl⟩) h45
   have h46:=ap2 h45
   refine⟨kd [],?_⟩
   refine actG ?_
   refine ag_makeMap (t:=174) (d:=14) kI vE kr kr rfl h46 ?_
   intro r47 _ h49
   refine⟨kd [],nxG ?_⟩
   refine g0<|nG (fun q_=>pV q_) 177 [pV b23,.map (some r47),.slice p41 RL.length c42] h49 (fun r50 _ h52=>⟨kd [],?_⟩)
   refine g0 ?_
   refine enL ?_
   exact⟨r50,b23,r47,p41,c42,_,(lvF [.k 0 (pV b),.k 3 (pV r50)]),h52.x.e.x.e.e.x.f.t9⟩
  refine actG ?_
  refine ag_makeMap (t:=174) (d:=14) kI vE kr kr rfl h22 ?_
  intro r54 _ h56
  refine⟨kd [rd 0 9 2 2 1 h56,rd 0 3 2 0 1 h56],nxG ?_⟩
  refine cG call120 (scopy_ht s12 n A) h56.c.t6 ?_
  rintro v K _ (⟨b57,rfl,rfl⟩) h60
  have h61:=ap2 h60
  refine⟨kd [rd 0 9 4 2 1 h61],?_⟩
  refine cG call121 (rclone_ht p14 RL.length c15 RL (Sl 226 8 p14 RL.length c15 (fl eRs RL)) (gv_sl _ _ _) hl20 om) h61.c.t7 ?_
  rintro v K _ (⟨p62,c63,rfl,rfl⟩) h66
  have h67:=ap2 h66
  refine⟨kd [],?_⟩
  refine g0<|nG (fun q_=>pV q_) 177 [pV b57,.map (some r54),.slice p62 RL.length c63] h67 (fun r68 _ h70=>⟨kd [],?_⟩)
  refine g0 ?_
  refine enL ?_
  exact⟨r68,b57,r54,p62,c63,_,(lvF [.k 0 (pV b),.k 3 (pV r68)]),h70.x.d.x.d.x.x.f.t9⟩
 rintro a72 w73 ⟨rb,s2,r2,p2,c2,lr75,rfl,h74⟩
 refine ga ?_
 have h76:=h74.f.t9
 refine go [rd 4 3 4 1 1 h74] ?_
 refine actG ?_
 refine ag_range (t:=174) (d:=26) (x:=Ot 25) kr kr rfl underlying174 kr h76 ?_
 intro r77 _ h79
 refine nxA<|g0 ?_
 refine lpS (fun mz_ a w=> ∃S_:Tm,∃Ec:Tm,∃cu_:Option (Int×Ety),∃lr:Fr,mz_=S_.length∧(Part E16 S_ Ec)∧a=mk 39 (([(3,pV rb),(26,pV r77)]:Fr)++lr)∧sat g w [It kI vE m13 r77 E16 S_ cu_,Gp kI vE r2 Ec,Cl rb [pV s2,.map (some r2),.slice p2 RL.length c2] 177,Tb s2 n A,Sl 226 8 p2 RL.length c2 (fl eRs RL),Cl b [pV s12,.map (some m13),.slice p14 RL.length c15] 177,Tb s12 n A,Sl 226 8 p14 RL.length c15 (fl eRs RL),R]) E16.length ⟨E16,[],none,_,rfl,(part_start hM17.1),(lvF [.k 3 (pV rb),.k 26 (pV r77)]),h79.c.a.t9⟩ ?_
 rintro m82 a83 w84 ⟨S_,Ec,cu_,lr81,rfl,hP_,rfl,h85⟩
 refine ga<|g0 ?_
 refine actG ?_
 refine ag_next (d:=27) (x:=Ot 26) kr kr rfl kr h85 ?_ ?_
 ·
  intro hS86 w87 h88
  refine nxA<|g0<|up<|g0 ?_
  have h94:sat g w87 [Gp kI vE m13 E16,Gp kI vE r2 Ec,Cl rb [pV s2,.map (some r2),.slice p2 RL.length c2] 177,Tb s2 n A,Sl 226 8 p2 RL.length c2 (fl eRs RL),Cl b [pV s12,.map (some m13),.slice p14 RL.length c15] 177,Tb s12 n A,Sl 226 8 p14 RL.length c15 (fl eRs RL),R]:=it_end h88
  have h96:sat g _ (Tab b n A E RL::_):=tab_close hM17.1 om (by first|rfl |omega) h94.x.a.x.x.t9
  have h97:=h96.d.b.d.d.t6
  have h98:sat g _ (Tab rb n A E RL::_):=tab_close (part_end (hS86▸hP_) hM17.1) om (by first|rfl |omega) h97
  exact en (pV rb) [] ⟨_,_,rfl,⟨rb,rfl,rfl⟩,h98.a.t3⟩
 intro ix89 q90 hq91 _ h93
 have hel100:=terase_len hq91
 refine nxA<|g0 ?_
 refine actG ?_
 refine act_law (d:=29) (.tuple #[iV q90.1,.agg #[iV q90.2.d.1,iV q90.2.d.2.1,uV q90.2.d.2.2,iV q90.2.num,iV q90.2.h.1,uV q90.2.h.2]]) kr rfl (law_entry (x:=Ot 26) kr kr h93 (.tuple #[iV q90.1,.agg #[iV q90.2.d.1,iV q90.2.d.2.1,uV q90.2.d.2.2,iV q90.2.num,iV q90.2.h.1,uV q90.2.h.2]]) rfl) ?_
 refine nxA<|g0<|nP 228 [iV 0,iV 0,uV 0,iV 0,iV 0,uV 0] h93 (fun _ _ h103=> ?_)
 refine g0<|sA [iV q90.2.d.1,iV q90.2.d.2.1,uV q90.2.d.2.2,iV q90.2.num,iV q90.2.h.1,uV q90.2.h.2] h103 fun _ h105=>g0<|dw (fls [0,1,2,3,4,5] (Tr.an 6 Tr.nil)) h105 fun _ h107=> ?_
 have h108:=h107.b.t10
 refine go [rd 7 3 3 1 1 h107,rd 7 5 0 0 6 h107] ?_
 refine actG ?_
 refine ag_mapUpdate (t:=174) (m:=Ot 35) (x:=Ot 36) (y:=Ot 37) (kv:=kI) (ve:=vE) kr kr underlying174 kyI q90.1 (⟨(q90.2.d.1,q90.2.d.2.1,q90.2.d.2.2),q90.2.num,(q90.2.h.1,q90.2.h.2)⟩:Ety) kr kr kr h108 (gset Ec q90.1 ⟨(q90.2.d.1,q90.2.d.2.1,q90.2.d.2.2),q90.2.num,(q90.2.h.1,q90.2.h.2)⟩) rfl ?_
 intro _ h110
 refine⟨kd [],nxN ?_⟩
 refine g0 ?_
 refine enL ?_
 have h112:=tk9 h110.i.i.i.i.i.i.i.x.i.t10
 change ∃n',n'<_∧_
 refine⟨(S_.eraseIdx ix89).length,by omega,(S_.eraseIdx ix89),(gset Ec q90.1 ⟨(q90.2.d.1,q90.2.d.2.1,q90.2.d.2.2),q90.2.num,(q90.2.h.1,q90.2.h.2)⟩),(some q90),_,rfl,(part_go hP_ hq91),(lvF [.k 3 (pV rb),.k 26 (pV r77)]),h112⟩
theorem tset_w(b n:Nat)(S:Ts)(vn x y z st why tr nx:Int)(L:List UInt8)(hz0:0≤z)(hz1:z≤4294967295)(hm:L.length≤1099511627776):HQ 316 [pV b,iV vn,Value.agg #[iV x,iV y,uV z,iV st,iV why,iV tr,iV nx,Value.string (St L)]] [TW b n S] (Value.int .i64 (setE S vn ⟨(x,y,z),st,why,tr,nx,L⟩)) [TW b n (setS S vn ⟨(x,y,z),st,why,tr,nx,L⟩)]:=by
 refine ht_wi (fun W=> ?_) (fun W=>wf_set W _ _)
 have bad: ∀e:Int,setE S vn ⟨(x,y,z),st,why,tr,nx,L⟩=e→e≠0→HT prog 316 [pV b,iV vn,Value.agg #[iV x,iV y,uV z,iV st,iV why,iV tr,iV nx,Value.string (St L)]] [Tab b n S.A S.E S.R] (fun v K=>v=Value.int .i64 e∧K= [Tab b n S.A S.E S.R])→HT prog 316 [pV b,iV vn,Value.agg #[iV x,iV y,uV z,iV st,iV why,iV tr,iV nx,Value.string (St L)]] [Tab b n S.A S.E S.R] (fun v K=>v=Value.int .i64 (setE S vn ⟨(x,y,z),st,why,tr,nx,L⟩)∧K= [Tab b n (setS S vn ⟨(x,y,z),st,why,tr,nx,L⟩).A (setS S vn ⟨(x,y,z),st,why,tr,nx,L⟩).E (setS S vn ⟨(x,y,z),st,why,tr,nx,L⟩).R]):=fun e h1 h2 h3=>by
  rw[set_bad h1 h2,h1]
  exact h3
 by_cases hv:1≤vn∧vn≤(S.R.length:Int)
 · have hn0:nE S vn=0:=if_pos hv
   have hg:=getR_at hv
   have hq:vn=((vn-1).toNat:Int)+1:=by omega
   have hres:resR ⟨(x,y,z),st,why,tr,nx,L⟩=resE x y z st why tr nx L:=rfl
   by_cases hr:resE x y z st why tr nx L=0
   · by_cases ho:((x,y,z):Ky)=(getR S vn).out
     · have ho3:x=(getR S vn).out.1∧y=(getR S vn).out.2.1∧z=(getR S vn).out.2.2:=by rw[←ho];exact⟨rfl,rfl,rfl⟩
       by_cases ht:L=(getR S vn).tag
       · have hnn: ¬((⟨(x,y,z),st,why,tr,nx,L⟩:Rs).out≠(getR S vn).out∨(⟨(x,y,z),st,why,tr,nx,L⟩:Rs).tag≠(getR S vn).tag):=fun h=>h.elim (fun h=>h ho) (fun h=>h ht)
         by_cases hs:st=1
         · have h0:setE S vn ⟨(x,y,z),st,why,tr,nx,L⟩=0:=by unfold setE;rw[if_neg om,if_neg om,if_neg hnn,if_neg (fun h=>h.1 hs)]
           have hS:setS S vn ⟨(x,y,z),st,why,tr,nx,L⟩=⟨S.A,S.E,S.R.set (vn-1).toNat ⟨(x,y,z),st,why,tr,nx,L⟩⟩:=by unfold setS;rw[if_pos h0]
           rw[h0,hS]
           exact tset_ok1 b n S.A S.E S.R vn x y z st why tr nx L hz0 hz1 hm _ _ hg hq hr ho3 ht hs
         · by_cases hd:0<(descs S.E vn).length
           · exact bad 8 (by unfold setE;rw[if_neg om,if_neg om,if_neg hnn,if_pos ⟨hs,hd⟩]) om (tset_state b n S.A S.E S.R vn x y z st why tr nx L hz0 hz1 hm _ _ hg hq hr ho3 ht hs hd)
           · have h0:setE S vn ⟨(x,y,z),st,why,tr,nx,L⟩=0:=by unfold setE;rw[if_neg om,if_neg om,if_neg hnn,if_neg (fun h=>hd h.2)]
             have hS:setS S vn ⟨(x,y,z),st,why,tr,nx,L⟩=⟨S.A,S.E,S.R.set (vn-1).toNat ⟨(x,y,z),st,why,tr,nx,L⟩⟩:=by unfold setS;rw[if_pos h0]
             rw[h0,hS]
             exact tset_ok2 b n S.A S.E S.R vn x y z st why tr nx L hz0 hz1 hm _ _ hg hq hr ho3 ht om
       · exact bad 2 (by unfold setE;rw[if_neg om,if_neg om,if_pos (.inr ht)]) om (tset_tag b n S.A S.E S.R vn x y z st why tr nx L hz0 hz1 hm _ _ hg hq hr ho3 ht)
     · exact bad 2 (by unfold setE;rw[if_neg om,if_neg om,if_pos (.inl ho)]) om (tset_out b n S.A S.E S.R vn x y z st why tr nx L hz0 hz1 hm _ _ hg hq hr (fun h=>ho (Prod.ext h.1 (Prod.ext h.2.1 h.2.2))))
   · have h1:setE S vn ⟨(x,y,z),st,why,tr,nx,L⟩=resE x y z st why tr nx L:=by unfold setE;rw[if_neg om,if_pos om,hres]
     exact bad _ h1 hr (tset_chk b n S.A S.E S.R vn x y z st why tr nx L hz0 hz1 hm _ _ hg hq hr)
 · have h1:nE S vn=3:=if_neg hv
   exact bad 3 (by unfold setE;rw[if_pos om]) om (tset_no b n S.A S.E S.R vn x y z st why tr nx L om)
theorem tnums_w(b n:Nat)(S:Ts)(vn:Int):HT prog 55 [pV b,iV vn] [TW b n S] (fun v K=> ∃(p:Option Addr) (c:Nat),v=Value.slice p ((nums S.R vn).length) c∧K= [TW b n S,Sl 3 1 p ((nums S.R vn).length) c (fl eI (nums S.R vn))]):=
 HT.wi fun W=>(tnums_ht b n S.A S.E S.R vn).post fun v K hP=>by
  obtain⟨p,c,h1,h2⟩:=hP
  exact⟨_,⟨p,c,h1,rfl⟩,fun g w F hs=>by rw[h2] at hs;exact wi_in W hs⟩
theorem tcopy_w(b n:Nat)(S:Ts):HT prog 47 [pV b] [TW b n S] (fun v K=> ∃b2:Nat,v=pV b2∧K= [TW b n S,TW b2 n S]):=
 HT.wi fun W=>(tcopy_ht b n S.A S.E S.R).post fun v K hP=>by
  obtain⟨b2,h1,h2⟩:=hP
  exact⟨_,⟨b2,h1,rfl⟩,fun g w F hs=>by rw[h2] at hs;exact wi_in W (sat_sw (wi_in W (sat_sw hs)))⟩
abbrev Fl:=Int×Int×Int
abbrev Xs:=List Fl
def sl2(x:Fl):Sl2:=(x.1,x.2.1)
def As(X:Xs):List Sl2:=X.map sl2
theorem as_len(X:Xs):(As X).length=X.length:=List.length_map _
theorem as_get{X:Xs}{i:Nat}{x:Fl}(h:X[i]? =some x):(As X)[i]? =some (x.1,x.2.1):=by
 unfold As
 rw[List.getElem?_map,h]
 rfl
theorem as_set(X:Xs)(i:Nat)(x:Fl):As (X.set i x)=(As X).set i (x.1,x.2.1):=List.map_set
def KGood(o:Ky):Prop:=1≤o.1∧o.1≤3∧0≤o.2.1∧o.2.1≤63∧1≤o.2.2
instance (o:Ky):Decidable (KGood o):=by unfold KGood;infer_instance
def errA(A:List Sl2)(o:Ky):Int:=if ¬KGood o∨o.1≠1 then 2 else if (A.length:Int)≤o.2.1 then 3 else if A[o.2.1.toNat]? =some (1,o.2.2) then 0 else 7
theorem chk_arg(A:List Sl2){x y z:Int}(h: ¬(1≤x∧x≤3∧0≤y∧y≤63∧1≤z)∨x≠1):errA A (x,y,z)=2:=if_pos h
theorem chk_range(A:List Sl2){n:Nat}(hn:A.length=n){x y z:Int}(hx:x=1)(h1:0≤y)(h2:y≤63)(h3:1≤z)(hr:(n:Int)≤y):errA A (x,y,z)=3:=by
 unfold errA
 rw[if_neg (by rintro(h|h);exact h ⟨by show 1≤x;omega,by show x≤3;omega,h1,h2,h3⟩;exact h hx),if_pos (by rw[hn];exact hr)]
theorem chk_in(A:List Sl2){q:Nat}{s:Sl2}{x y z:Int}(hx:x=1)(h2:y≤63)(h3:1≤z)(hq:y=(q:Int))(hs:A[q]? =some s):errA A (x,y,z)=if s.1=1∧s.2=z then 0 else 7:=by
 have hl:=(List.getElem?_eq_some_iff.1 hs).1
 obtain⟨s1,s2⟩:=s
 unfold errA
 rw[if_neg (by rintro(h|h);exact h ⟨by show 1≤x;omega,by show x≤3;omega,by show 0≤y;omega,h2,h3⟩;exact h hx),if_neg (by show ¬(_≤y);omega)]
 show (if A[y.toNat]? =some (1,z) then (0:Int) else 7)=_
 rw[hq,Int.toNat_natCast,hs]
 simp only[Option.some.injEq,Prod.mk.injEq]
theorem chk_ok(A:List Sl2){q:Nat}{s:Sl2}{x y z:Int}(hx:x=1)(h2:y≤63)(h3:1≤z)(hq:y=(q:Int))(hs:A[q]? =some s)(h:s.1=1∧s.2=z):errA A (x,y,z)=0:=by rw[chk_in A hx h2 h3 hq hs,if_pos h]
theorem chk_stale(A:List Sl2){q:Nat}{s:Sl2}{x y z:Int}(hx:x=1)(h2:y≤63)(h3:1≤z)(hq:y=(q:Int))(hs:A[q]? =some s)(h: ¬(s.1=1∧s.2=z)):errA A (x,y,z)=7:=by rw[chk_in A hx h2 h3 hq hs,if_neg h]
theorem chk_zero{A:List Sl2}{o:Ky}(h:errA A o=0):KGood o∧o.1=1∧o.2.1.toNat<A.length∧A[o.2.1.toNat]? =some (1,o.2.2):=by
 unfold errA at h
 split at h
 · exact absurd h dc
 · rename_i h1
   split at h
   · exact absurd h dc
   · split at h
     · rename_i h3
       simp only[not_or,Decidable.not_not] at h1
       exact⟨h1.1,h1.2,(List.getElem?_eq_some_iff.1 h3).1,h3⟩
     · exact absurd h dc
theorem chk_bd(A:List Sl2)(o:Ky):0≤errA A o∧errA A o≤7:=by
 unfold errA
 split
 · decide
 · split
   · decide
   · split<;>decide
def clsA(A:List Sl2)(o:Ky):List Sl2:=if errA A o=0 then giveA A o.2.1.toNat o.2.2 else A
def clsM(A:List Sl2)(E:Mm)(o:Ky):Mm:=if errA A o=0 then mdel E o else E
def shut(z:Int):Fl:=if z<4294967295 then (0,z+1,0) else (2,z,0)
def clsX(X:Xs)(o:Ky):Xs:=if errA (As X) o=0 then X.set o.2.1.toNat (shut o.2.2) else X
def allX(X:Xs):List Ky:=(inS 1 (As X) 0).map fun r=>(1,(r.1:Int),r.2)
def opnO(X:Xs)(v:Int):Ky:=if v<0∨65535<v then (0,0,0) else if 0<(inS 0 (As X) 0).length then (1,(((inS 0 (As X) 0).getD 0 (0,0)).1:Int),((inS 0 (As X) 0).getD 0 (0,0)).2) else (0,0,0)
def opnE(X:Xs)(v:Int):Int:=if v<0∨65535<v then 2 else if 0<(inS 0 (As X) 0).length then 0 else 4
def opnX(X:Xs)(v:Int):Xs:=if v<0∨65535<v then X else if 0<(inS 0 (As X) 0).length then X.set ((inS 0 (As X) 0).getD 0 (0,0)).1 (1,((inS 0 (As X) 0).getD 0 (0,0)).2,v) else X
theorem opn_arg{X:Xs}{v:Int}(h:v<0∨65535<v):opnO X v=(0,0,0)∧opnE X v=2∧opnX X v=X:=by
 unfold opnO opnE opnX
 rw[if_pos h,if_pos h,if_pos h]
 exact⟨rfl,rfl,rfl⟩
theorem opn_full{X:Xs}{v:Int}(h:0≤v∧v≤65535)(hf:(inS 0 (As X) 0).length=0):opnO X v=(0,0,0)∧opnE X v=4∧opnX X v=X:=by
 unfold opnO opnE opnX
 rw[if_neg om,if_neg om,if_neg om,if_neg om,if_neg om,if_neg om]
 exact⟨rfl,rfl,rfl⟩
theorem opn_ok{X:Xs}{v:Int}(h:0≤v∧v≤65535){i:Nat}{g:Int}(hi:(inS 0 (As X) 0)[0]? =some (i,g)):opnO X v=(1,(i:Int),g)∧opnE X v=0∧opnX X v=X.set i (1,g,v):=by
 have hl:=(List.getElem?_eq_some_iff.1 hi).1
 unfold opnO opnE opnX
 have h1: ¬(v<0∨65535<v):=by omega
 rw[if_neg h1,if_neg h1,if_neg h1,if_pos hl,if_pos hl,if_pos hl,getD_some hi]
 exact⟨rfl,rfl,rfl⟩
theorem giveA_as(X:Xs)(q:Nat)(z:Int):giveA (As X) q z=As (X.set q (shut z)):=by
 rw[as_set]
 unfold giveA shut
 split<;>rfl
theorem clsA_as(X:Xs)(o:Ky):clsA (As X) o=As (clsX X o):=by
 unfold clsA clsX
 split
 · exact giveA_as X _ _
 · rfl
theorem mget_set(E:Mm)(k a:Ky)(v:Int):mget (mset E k v) a=if a=k then some v else mget E a:=by
 induction E with
 |nil=>simp only[mset,mget]
 |cons q E ih=>
  obtain⟨b,u⟩:=q
  simp only[mset]
  split
  · rename_i h
    subst h
    simp only[mget]
    split<;>rfl
  · rename_i h
    simp only[mget,ih]
    split
    · rename_i h1
      rw[if_neg (by rintro rfl;exact h h1)]
    · rfl
theorem mget_del{E:Mm}{k a:Ky}(h:a≠k):mget (mdel E k) a=mget E a:=by
 induction E with
 |nil=>rfl
 |cons q E ih=>
  obtain⟨b,u⟩:=q
  simp only[mdel]
  split
  · rename_i h1
    subst h1
    simp only[mget]
    rw[if_neg h]
  · simp only[mget,ih]
def Nums(X:Xs)(E:Mm):Prop:= ∀(i:Nat) (g v:Int),X[i]? =some (1,g,v)→mget E (1,(i:Int),g)=some v
theorem nums_nil{n:Nat}{g:Int}:Nums (List.replicate n (0,g,0)) []:=fun i a v h=>by
 have:=List.eq_of_mem_replicate (List.mem_of_getElem? h)
 simp only[Prod.mk.injEq] at this
 exact absurd this.1 dc
theorem set_cases{α:Type}{X:List α}{q i:Nat}{y x:α}(h:(X.set q y)[i]? =some x):(i=q∧x=y)∨(i≠q∧X[i]? =some x):=by
 by_cases hi:i=q
 · subst hi
   left
   have hl:i<X.length:=by
    have:=(List.getElem?_eq_some_iff.1 h).1
    simpa using this
   rw[List.getElem?_set_self hl] at h
   exact⟨rfl,(Option.some.inj h).symm⟩
 · right
   rw[List.getElem?_set_ne (fun h=>hi h.symm)] at h
   exact⟨hi,h⟩
theorem nums_open{X:Xs}{E:Mm}{q:Nat}{g v:Int}(h:Nums X E):Nums (X.set q (1,g,v)) (mset E (1,(q:Int),g) v):=fun i a u hi=>by
 rw[mget_set]
 rcases set_cases hi with ⟨rfl,h2⟩|⟨h1,h2⟩
 · simp only[Prod.mk.injEq] at h2
   obtain⟨_,rfl,rfl⟩:=h2
   rw[if_pos rfl]
 · rw[if_neg (by simp only[Prod.mk.injEq,not_and];intro _ h3;omega)]
   exact h i a u h2
theorem nums_close{X:Xs}{E:Mm}{o:Ky}(h:Nums X E):Nums (clsX X o) (clsM (As X) E o):=by
 unfold clsX clsM
 split
 · rename_i hc
   obtain⟨h1,h2,h3,h4⟩:=chk_zero hc
   intro i a u hi
   rcases set_cases hi with ⟨rfl,h5⟩|⟨h5,h6⟩
   · unfold shut at h5
     split at h5<;>(simp only[Prod.mk.injEq] at h5;exact absurd h5.1 dc)
   · rw[mget_del]
     · exact h i a u h6
     · rintro rfl
       exact h5 rfl
 · exact h
section
def Fd(b n:Nat)(X:Xs):Assn:=fun h=> ∃x:Nat×Nat×Mm,(Nums X x.2.2∧n≤64)∧star [Cl b [.pointer (some ⟨x.1,0,none⟩),.map (some x.2.1)] 281,Tb x.1 n (As X),Mp x.2.1 x.2.2] h
section
variable {g w : World} {L : List Assn} {b n : Nat} {X : Xs}
theorem fd_open(h:sat g w (Fd b n X::L)): ∃s m E,(Nums X E∧n≤64)∧sat g w (Cl b [pV s,.map (some m)] 281::Tb s n (As X)::Mp m E::L):=by
 obtain⟨⟨s,m,E⟩,h1,h2⟩:=sat_open (X:=Nat×Nat×Mm) (p:=fun x=>Nums X x.2.2∧n≤64) (B:=fun x=>star [Cl b [.pointer (some ⟨x.1,0,none⟩),.map (some x.2.1)] 281,Tb x.1 n (As X),Mp x.2.1 x.2.2]) h (fun k hk=>hk)
 exact⟨s,m,E,h1,sat_unstar h2⟩
theorem fd_close{s m:Nat}{E E':Mm}{A:List Sl2}(h1:Nums X E')(h2:n≤64)(hA:A=As X)(hE:E=E')(h:sat g w (Cl b [pV s,.map (some m)] 281::Tb s n A::Mp m E::L)):sat g w (Fd b n X::L):=by
 subst hA
 subst hE
 exact sat_imp (sat_star (K:= [Cl b [pV s,.map (some m)] 281,Tb s n (As X),Mp m E]) h) fun k hk=>⟨(s,m,E),⟨h1,h2⟩,hk⟩
end
theorem cls_no{A:List Sl2}{o:Ky}{e:Int}(h:errA A o=e)(he:e≠0):clsA A o=A:=by
 unfold clsA
 rw[if_neg om]
theorem cls_ok{A:List Sl2}{x y z:Int}{q:Nat}(h:errA A (x,y,z)=0)(hq:y=(q:Int)):clsA A (x,y,z)=giveA A q z:=by
 unfold clsA
 rw[if_pos h]
 show giveA A y.toNat z=_
 rw[hq,Int.toNat_natCast]
theorem clsm_no{A:List Sl2}{E:Mm}{o:Ky}(h: ¬errA A o=0):E=clsM A E o:=(if_neg h).symm
theorem clsm_ok{A:List Sl2}{E:Mm}{o:Ky}(h:errA A o=0):mdel E o=clsM A E o:=(if_pos h).symm
theorem made_y(b s m:Nat):HQ 169 [pV b] [Cl b [pV s,.map (some m)] 281] (.bool true) [Cl b [pV s,.map (some m)] 281]:=by
 refine hiS func169 ntmps169 fun g w0 R h0=>go [rd 1 6 0 0 1 h0] ?_
 exact enR _ [] h0
theorem ffile(y z:Int):HQ 399 [.agg #[iV y,uV z]] [] (.agg #[iV 1,iV y,uV z]) []:=by
 refine hiS func399 ntmps399 fun g w0 R h0=>g0<|nP 203 [iV y,uV z] h0 (fun _ _ h12=> ?_)
 refine nP 48 [iV 0,iV 0,uV 0] h12 (fun _ _ h15=> ?_)
 refine go [rd 1 1 1 0 1 h15,rd 1 3 1 1 1 h15]<|sA [iV 1,iV y,uV z] h15 fun _ h17=>g0 ?_
 exact enR _ [rd 0 0 0 0 3 h17] h17.b.t1
theorem cls1_ht(c2 c5 b s m n:Nat)(A:List Sl2)(q:Nat)(a:Sl2)(ha:A[q]? =some a)(i gn:Int)(hc:i=(q:Int)∧a.1=1∧a.2=gn):HQ 479 [.agg #[iV i,uV gn],pV c2,pV c5] [Cl c2 [pV b] 179,Cl c5 [iV 0] 29,Cl b [pV s,.map (some m)] 281,Tb s n A] (.tuple #[]) [Cl c2 [pV b] 179,Cl c5 [iV 0] 29,Cl b [pV s,.map (some m)] 281,Tb s n (giveA A q gn)]:=by
 refine hiS func479 ntmps479 fun g w0 R h0=>g0<|nP 203 [iV i,uV gn] h0 (fun _ _ h12=> ?_)
 refine g0<|dw (fls [0,1,2,3,4] (Tr.an 5 (Tr.an 6 Tr.nil))) h12 fun _ h14=> ?_
 have h15:=h14.d.t6
 refine go [rd 1 0 1 0 1 h14,rd 1 3 3 0 1 h14,rd 1 4 0 0 2 h14]<|cw1 call382 (give_ht s n A q a ha i gn om) h15 fun _ h17=>⟨kd [],?_⟩
 refine sB [iV 0] h17.c.t6 fun _ h20=>⟨kd [],?_⟩
 refine g0 ?_
 exact enR _ [] (tk5 (sf4 (sf4 (sf4 (sf4 (sf5 h20.d.a.d.t6))))))
theorem with_c(c2 c3 c5 c6 b s m n:Nat)(A:List Sl2)(E:Mm)(x y z:Int)(hz0:0≤z)(hz1:z≤4294967295):HQ 478 [pV b,.agg #[iV x,iV y,uV z],.func (Fn.func 479) #[] #[pV c2,pV c5]] [Cl c2 [pV b] 179,Cl c5 [iV 0] 29,Cl b [pV s,.map (some m)] 281,Tb s n A] (iV (errA A (x,y,z))) [Cl c2 [pV b] 179,Cl c5 [iV 0] 29,Cl b [pV s,.map (some m)] 281,Tb s n (clsA A (x,y,z))]:=by
 refine hiS func478 ntmps478 fun g w0 R h0=> ?_
 have hb10:=tb_bd (j:=3) h0 rfl
 have hAl_:=hb10.1;have hb11:=hb10.2.1;have hb12:=hb10.2.2.1;have hok_:=hb10.2.2.2
 refine g0<|nP 48 [iV x,iV y,uV z] h0 (fun _ _ h15=> ?_)
 refine go [rd 1 1 0 1 1 h15,rd 1 3 0 2 1 h15]<|nP 203 [iV 0,uV 0] h15 (fun _ _ h18=> ?_)
 refine sA [iV y,uV z] h18 fun _ h20=> ?_
 have h21:=h20.d.t7
 refine g0<|cl1 call169 (made_y b s m) h21 fun _ h23=>go [rd 4 0 2 0 3 h23] ?_
 by_cases c24:1≤x;rotate_left
 ·
  refine cl0 call273 (couter_no x y z om om om) h23 fun _ h83=>g0 ?_
  have he_:errA A (x,y,z)=2:=chk_arg A om
  have hc_:clsA A (x,y,z)=A:=cls_no he_ dc
  exact en (iV 2) [] ⟨_,[Cl c2 [pV b] 179,Cl c5 [iV 0] 29,Cl b [pV s,.map (some m)] 281,Tb s n A],rfl,⟨by rw[he_],by rw[hc_]⟩,(tk5 (sf4 (sf4 (sf4 (sf4 (sf6 h83.e.a.e.e.t7))))))⟩
 by_cases c25:x≤3;rotate_left
 ·
  refine cl0 call273 (couter_no x y z om om om) h23 fun _ h79=>g0 ?_
  have he_:errA A (x,y,z)=2:=chk_arg A om
  have hc_:clsA A (x,y,z)=A:=cls_no he_ dc
  exact en (iV 2) [] ⟨_,[Cl c2 [pV b] 179,Cl c5 [iV 0] 29,Cl b [pV s,.map (some m)] 281,Tb s n A],rfl,⟨by rw[he_],by rw[hc_]⟩,(tk5 (sf4 (sf4 (sf4 (sf4 (sf6 h79.e.a.e.e.t7))))))⟩
 by_cases c26:0≤y;rotate_left
 ·
  refine cl0 call273 (couter_no x y z om om om) h23 fun _ h75=>g0 ?_
  have he_:errA A (x,y,z)=2:=chk_arg A om
  have hc_:clsA A (x,y,z)=A:=cls_no he_ dc
  exact en (iV 2) [] ⟨_,[Cl c2 [pV b] 179,Cl c5 [iV 0] 29,Cl b [pV s,.map (some m)] 281,Tb s n A],rfl,⟨by rw[he_],by rw[hc_]⟩,(tk5 (sf4 (sf4 (sf4 (sf4 (sf6 h75.e.a.e.e.t7))))))⟩
 by_cases c27:y≤63;rotate_left
 ·
  refine cl0 call273 (couter_no x y z om om om) h23 fun _ h71=>g0 ?_
  have he_:errA A (x,y,z)=2:=chk_arg A om
  have hc_:clsA A (x,y,z)=A:=cls_no he_ dc
  exact en (iV 2) [] ⟨_,[Cl c2 [pV b] 179,Cl c5 [iV 0] 29,Cl b [pV s,.map (some m)] 281,Tb s n A],rfl,⟨by rw[he_],by rw[hc_]⟩,(tk5 (sf4 (sf4 (sf4 (sf4 (sf6 h71.e.a.e.e.t7))))))⟩
 by_cases c28:1≤z;rotate_left
 ·
  refine cl0 call273 (couter_no x y z om om om) h23 fun _ h67=>g0 ?_
  have he_:errA A (x,y,z)=2:=chk_arg A om
  have hc_:clsA A (x,y,z)=A:=cls_no he_ dc
  exact en (iV 2) [] ⟨_,[Cl c2 [pV b] 179,Cl c5 [iV 0] 29,Cl b [pV s,.map (some m)] 281,Tb s n A],rfl,⟨by rw[he_],by rw[hc_]⟩,(tk5 (sf4 (sf4 (sf4 (sf4 (sf6 h67.e.a.e.e.t7))))))⟩
 refine cl0 call273 (couter_ok x y z om om om) h23 fun _ h30=>go [rd 4 5 2 0 1 h30,.s 4 6] ?_
 by_cases c31:x=1;rotate_left
 ·
  refine go [.v 4 6 (qnT x 1)] ?_
  have he_:errA A (x,y,z)=2:=chk_arg A om
  have hc_:clsA A (x,y,z)=A:=cls_no he_ dc
  exact en (iV 2) [] ⟨_,[Cl c2 [pV b] 179,Cl c5 [iV 0] 29,Cl b [pV s,.map (some m)] 281,Tb s n A],rfl,⟨by rw[he_],by rw[hc_]⟩,(tk5 (sf4 (sf4 (sf4 (sf4 (sf6 h30.e.a.e.e.t7))))))⟩
 refine go [.v 4 6 (qnF x 1)]<|dw (fls [0,1,2,3,4] (Tr.an 5 (Tr.fl 6 Tr.nil))) h30 fun _ h33=>go [rd 6 3 0 0 1 h33,rd 6 4 1 0 2 h33] ?_
 by_cases c34:y<(n:Int);rotate_left
 ·
  refine cw1 call325 (check_range s n A y z om) h33.e.t7 fun _ h61=>⟨kd [],?_⟩
  refine g0 ?_
  have he_:errA A (x,y,z)=3:=chk_range A hAl_ om om om om om
  have hc_:clsA A (x,y,z)=A:=cls_no he_ dc
  exact en (iV 3) [] ⟨_,[Cl c2 [pV b] 179,Cl c5 [iV 0] 29,Cl b [pV s,.map (some m)] 281,Tb s n A],rfl,⟨by rw[he_],by rw[hc_]⟩,(tk5 (sf4 (sf4 (sf4 (sf4 (sf6 h61.a.e.e.t7))))))⟩
 obtain⟨kk35,hk36⟩: ∃z_:Nat,y=(z_:Int):=⟨(y).toNat,by omega⟩
 obtain⟨x37,hx38⟩: ∃x:Sl2,A[kk35]? =some x:=⟨_,List.getElem?_eq_getElem (by rw[hAl_];omega)⟩
 have hb39:=hok_ x37 (List.mem_of_getElem? hx38)
 by_cases c40:x37.1=1
 ·
  by_cases c41:x37.2=z
  ·
   refine cw1 call325 (check_ok s n A kk35 x37 hx38 y z om) h33.e.t7 fun _ h44=>⟨kd [],?_⟩
   have h45:=h44.a.e.e.t7
   refine go [rd 9 1 2 0 2 h44]<|cl4 call479 (cls1_ht c2 c5 b s m n A kk35 x37 hx38 y z om) h45 fun _ h47=>g0 ?_
   have he_:errA A (x,y,z)=0:=chk_ok A om om om om hx38 om
   have hc_:clsA A (x,y,z)=(giveA A kk35 z):=cls_ok he_ om
   exact en (iV 0) [] ⟨_,[Cl c2 [pV b] 179,Cl c5 [iV 0] 29,Cl b [pV s,.map (some m)] 281,Tb s n (giveA A kk35 z)],rfl,⟨by rw[he_],by rw[hc_]⟩,h47.F.E.t5⟩
  refine cw1 call325 (check_stale s n A kk35 x37 hx38 y z om) h33.e.t7 fun _ h51=>⟨kd [],?_⟩
  refine g0 ?_
  have he_:errA A (x,y,z)=7:=chk_stale A om om om om hx38 om
  have hc_:clsA A (x,y,z)=A:=cls_no he_ dc
  exact en (iV 7) [] ⟨_,[Cl c2 [pV b] 179,Cl c5 [iV 0] 29,Cl b [pV s,.map (some m)] 281,Tb s n A],rfl,⟨by rw[he_],by rw[hc_]⟩,(tk5 (sf4 (sf4 (sf4 (sf4 (sf6 h51.a.e.e.t7))))))⟩
 refine cw1 call325 (check_stale s n A kk35 x37 hx38 y z om) h33.e.t7 fun _ h56=>⟨kd [],?_⟩
 refine g0 ?_
 have he_:errA A (x,y,z)=7:=chk_stale A om om om om hx38 om
 have hc_:clsA A (x,y,z)=A:=cls_no he_ dc
 exact en (iV 7) [] ⟨_,[Cl c2 [pV b] 179,Cl c5 [iV 0] 29,Cl b [pV s,.map (some m)] 281,Tb s n A],rfl,⟨by rw[he_],by rw[hc_]⟩,(tk5 (sf4 (sf4 (sf4 (sf4 (sf6 h56.a.e.e.t7))))))⟩
end
theorem take_y(b n:Nat)(A:List Sl2)(h:0<(inS 0 A 0).length):HT prog 231 [pV b] [Tb b n A] (fun v K=>v=Value.tuple #[Value.agg #[Value.int .i64 (((inS 0 A 0).getD 0 (0,0)).1:Int),Value.int .u32 ((inS 0 A 0).getD 0 (0,0)).2],Value.int .i64 0]∧K= [Tb b n (A.set ((inS 0 A 0).getD 0 (0,0)).1 (1,((inS 0 A 0).getD 0 (0,0)).2))]):=
 (take_ht b n A).mono fun v K hP=>by
  rw[(take_some h).1,(take_some h).2] at hP
  exact hP
theorem take_n(b n:Nat)(A:List Sl2)(h:(inS 0 A 0).length=0):HT prog 231 [pV b] [Tb b n A] (fun v K=>v=Value.tuple #[Value.agg #[Value.int .i64 0,Value.int .u32 0],Value.int .i64 4]∧K= [Tb b n A]):=
 (take_ht b n A).mono fun v K hP=>by
  rw[(take_none h).1,(take_none h).2] at hP
  exact hP
theorem get_zero{L:List (Nat×Int)}(h:0<L.length):L[0]? =some ((L.getD 0 (0,0)).1,(L.getD 0 (0,0)).2):=by
 rw[getD_some (List.getElem?_eq_getElem h),List.getElem?_eq_getElem h]
theorem tk_map{α β:Type}(f:α→β){l:List α}{i:Nat}{x:α}(h:l[i]? =some x):(l.take i).map f++ [f x]=(l.take (i+1)).map f:=by
 rw[List.take_add_one,h,List.map_append]
 rfl
theorem tk_all_map{α β:Type}(f:α→β){l:List α}{i:Nat}(h:l.length≤i):(l.take i).map f=l.map f:=by rw[List.take_of_length_le h]
theorem mclone(m:Nat)(E:Mm):HT prog 170 [.map (some m)] [Mp m E] (fun v K=> ∃m2:Nat,v= .map (some m2)∧K= [Mp m E,Mp m2 E]):=by
 refine hiS func170 ntmps170 fun g w0 R h0=>go [.s 3 1]<|lwP (.iface 279 (.map (some m))) (law_mkIface (t:=279) (x:=Ot 5) kr underlying279 rfl (.map (some m)) kr _) ?_
 refine actG ?_
 refine an_clone (t:=279) (d:=7) (f:=245) kr rfl (fun w_=>by rw[run_callFunc_extern func245 kr kr kr (e:=Extern.MapsClone.clone) kr];simp only[Sem.run_bind,Sem.run_pure]) h0 ?_
 intro r10 _ h12
 refine nxA<|lwP (.map (some r10)) (law_tAssert (t:=279) (s:=20) (x:=Ot 7) kr underlying279 rfl (.map (some r10)) kr _)<|g0 ?_
 exact en (.map (some r10)) [] ⟨_,_,rfl,⟨r10,rfl,rfl⟩,h12.a.t3⟩
theorem fnew_ok(n:Nat)(gn:Int)(hn:1≤n∧n≤64)(hgn:1≤gn∧gn≤4294967295):HT prog 69 [iV n,uV gn] [] (fun v K=> ∃b:Nat,v= .tuple #[pV b,iV 0]∧K= [Fd b n (List.replicate n (0,gn,0))]):=by
 refine hiS func69 ntmps69 fun g w0 R h0=>go [.v 1 1 (oF ((n:Int)>64))]<|cP call67 (snew_ok n om gn om) h0 ?_
 rintro v K _ (⟨b10,rfl,rfl⟩) h12
 have h13:=ap1 h12
 refine g0 ?_
 refine actG ?_
 refine an_makeMap (t:=279) (d:=20) kr kr rfl h13 ?_
 intro r14 _ h16
 refine nxA<|g0<|nP 281 [pV b10,.map (some r14)] h16 (fun r17 w18 h19=> ?_)
 refine g0 ?_
 have c:n≤64:=by omega
 have h21:sat g _ (Fd r17 n (List.replicate n (0,gn,0))::_):=fd_close nums_nil om List.map_replicate.symm rfl h19.b.a.t4
 exact en (.tuple #[pV r17,iV 0]) [] ⟨_,_,rfl,⟨r17,rfl,rfl⟩,h21⟩
theorem fopen_ht(b n:Nat)(X:Xs)(v:Int):HT prog 344 [pV b,iV v] [Fd b n X] (fun r K=>r= .tuple #[.agg #[iV (opnO X v).1,iV (opnO X v).2.1,uV (opnO X v).2.2],iV (opnE X v)]∧K= [Fd b n (opnX X v)]):=by
 refine hiS func344 ntmps344 fun g w0 R h0=> ?_
 obtain⟨s10,m11,E12,hN13,h14⟩:=fd_open h0
 have f:=hN13.2
 have hb15:=tb_bd (j:=1) h14 rfl
 have hAl_:=hb15.1;have i:=hb15.2.1;have hok_:=hb15.2.2.2
 refine g0<|nP 48 [iV 0,iV 0,uV 0] h14 (fun r16 _ h18=> ?_)
 have h19:=h18.a.t5
 refine g0<|cl1 call169 (made_y b s10 m11) h19 fun _ h21=>go [.s 3 1] ?_
 by_cases c22:v<0
 ·
  have h23:=h21.a.t5
  refine go [.v 3 1 (oT _ c22)]<|sA [iV 0,iV 0,uV 0] h23 fun w24 h25=>g0 ?_
  have ho_:=opn_arg (X:=X) (v:=v) om
  have h27:sat g _ (Fd b n X::_):=fd_close hN13.1 om rfl rfl h25.c.c.c.t5
  exact en (.tuple #[.agg #[iV 0,iV 0,uV 0],iV 2]) [rd 0 0 0 0 3 h25] ⟨_,[Fd b n X],rfl,⟨by rw[ho_.1,ho_.2.1],by rw[ho_.2.2]⟩,h27.B.t2⟩
 refine go [.v 3 1 (oF _ c22),.s 3 4] ?_
 by_cases c29:v>65535
 ·
  have h30:=h21.a.t5
  refine go [.v 3 4 (oT _ c29)]<|sA [iV 0,iV 0,uV 0] h30 fun w31 h32=>g0 ?_
  have ho_:=opn_arg (X:=X) (v:=v) om
  have h34:sat g _ (Fd b n X::_):=fd_close hN13.1 om rfl rfl h32.c.c.c.t5
  exact en (.tuple #[.agg #[iV 0,iV 0,uV 0],iV 2]) [rd 0 0 0 0 3 h32] ⟨_,[Fd b n X],rfl,⟨by rw[ho_.1,ho_.2.1],by rw[ho_.2.2]⟩,h34.B.t2⟩
 refine go [.v 3 4 (oF _ c29),rd 5 3 0 0 1 h21] ?_
 by_cases c36:0<(inS 0 (As X) 0).length
 ·
  refine cl1 call231 (take_y s10 n (As X) om) h21.b.t5 fun _ h39=>g0<|nP 203 [iV 0,uV 0] h39 (fun r40 _ h42=> ?_)
  refine sA [iV ((((inS 0 (As X) 0).getD 0 (0,0)).1:Nat):Int),uV (((inS 0 (As X) 0).getD 0 (0,0)).2)] h42 fun _ h44=>go [rd 8 0 0 0 2 h44]<|cl0 call399 (ffile ((((inS 0 (As X) 0).getD 0 (0,0)).1:Nat):Int) (((inS 0 (As X) 0).getD 0 (0,0)).2)) h44 fun _ h46=>nP 48 [iV 0,iV 0,uV 0] h46 (fun r47 _ h49=> ?_)
  refine sA [iV 1,iV ((((inS 0 (As X) 0).getD 0 (0,0)).1:Nat):Int),uV (((inS 0 (As X) 0).getD 0 (0,0)).2)] h49 fun _ h51=>g0<|dw (fls [0,1,2,3,4,5] (Tr.an 6 Tr.nil)) h51 fun _ h53=> ?_
  have h54:=h53.e.t7
  refine go [rd 9 3 3 1 1 h53,rd 9 4 0 0 3 h53] ?_
  refine actG ?_
  refine an_mapUpdate (t:=279) (m:=Ot 39) (x:=Ot 40) (y:=Ot 41) kr kr underlying279 keyok (1,((((inS 0 (As X) 0).getD 0 (0,0)).1:Nat):Int),((inS 0 (As X) 0).getD 0 (0,0)).2) v kr kr kr h54 (mset E12 (1,((((inS 0 (As X) 0).getD 0 (0,0)).1:Nat):Int),((inS 0 (As X) 0).getD 0 (0,0)).2) v) rfl ?_
  intro _ h56
  refine⟨kd [],nxN ?_⟩
  have h57:=h56.e.t7
  refine go [rd 10 0 1 0 3 h56]<|sA [iV 1,iV ((((inS 0 (As X) 0).getD 0 (0,0)).1:Nat):Int),uV (((inS 0 (As X) 0).getD 0 (0,0)).2)] h57 fun w58 h59=>g0 ?_
  have ho_:=opn_ok (X:=X) (v:=v) ⟨by omega,by omega⟩ (get_zero om)
  have h61:sat g _ (Fd b n (X.set ((inS 0 (As X) 0).getD 0 (0,0)).1 (1,((inS 0 (As X) 0).getD 0 (0,0)).2,v))::_):=fd_close (nums_open hN13.1) om (as_set X _ (1,_,v)).symm rfl h59.a.d.e.t7
  exact en (.tuple #[.agg #[iV 1,iV ((((inS 0 (As X) 0).getD 0 (0,0)).1:Nat):Int),uV (((inS 0 (As X) 0).getD 0 (0,0)).2)],iV 0]) [rd 0 0 0 0 3 h59] ⟨_,[Fd b n (X.set ((inS 0 (As X) 0).getD 0 (0,0)).1 (1,((inS 0 (As X) 0).getD 0 (0,0)).2,v))],rfl,⟨by rw[ho_.1,ho_.2.1],by rw[ho_.2.2]⟩,h61.d.a.t2⟩
 refine cl1 call231 (take_n s10 n (As X) om) h21.b.t5 fun _ h65=>g0<|nP 203 [iV 0,uV 0] h65 (fun r66 _ h68=> ?_)
 refine sA [iV 0,uV 0] h68 fun _ h70=> ?_
 have h71:=h70.c.t6
 refine g0<|sA [iV 0,iV 0,uV 0] h71 fun w72 h73=>g0 ?_
 have ho_:=opn_full (X:=X) (v:=v) ⟨by omega,by omega⟩ om
 have h75:sat g _ (Fd b n X::_):=fd_close hN13.1 om rfl rfl h73.d.c.d.t6
 exact en (.tuple #[.agg #[iV 0,iV 0,uV 0],iV 4]) [rd 0 0 0 0 3 h73] ⟨_,[Fd b n X],rfl,⟨by rw[ho_.1,ho_.2.1],by rw[ho_.2.2]⟩,h75.c.a.t2⟩
theorem fclose_ht(b n:Nat)(X:Xs)(x y z:Int)(hz0:0≤z)(hz1:z≤4294967295):HQ 452 [pV b,.agg #[iV x,iV y,uV z]] [Fd b n X] (iV (errA (As X) (x,y,z))) [Fd b n (clsX X (x,y,z))]:=by
 refine hiS func452 ntmps452 fun g w0 R h0=> ?_
 obtain⟨s10,m11,E12,hN13,h14⟩:=fd_open h0
 have c:=hN13.2
 have hb15:=tb_bd (j:=1) h14 rfl
 have hAl_:=hb15.1;have f:=hb15.2.1;have hok_:=hb15.2.2.2
 refine g0<|nP 179 [pV b] h14 (fun r16 _ h18=> ?_)
 refine nP 48 [iV x,iV y,uV z] h18 (fun r19 _ h21=> ?_)
 refine g0<|nP 29 [iV 0] h21 (fun r22 _ h24=> ?_)
 have hbd_:=chk_bd (As X) (x,y,z)
 have h25:=h24.d.d.b.d.t7
 refine go [rd 2 0 2 0 1 h24,rd 2 1 1 0 3 h24]<|cl4 call478 (with_c r16 0 r22 0 b s10 m11 n (As X) E12 x y z om om) h25 fun w26 h27=>go [.s 3 1] ?_
 by_cases c28:(errA (As X) (x,y,z))=0
 ·
  refine go [.v 3 1 (qnF (errA (As X) (x,y,z)) 0)]<|dw (fls [0,1,2,3,4] (Tr.an 5 Tr.nil)) h27 fun _ h30=> ?_
  have h31:=h30.e.t7
  refine go [rd 5 0 0 0 1 h30,rd 5 3 2 1 1 h30,rd 5 4 4 0 3 h30] ?_
  refine actG ?_
  refine an_delete (t:=279) (t2:=48) (d:=none) (m:=Ot 17) (x:=Ot 18) kr underlying279 keyok (x,y,z) kr kr h31 kr (mdel E12 (x,y,z)) rfl ?_
  intro w32 h33
  refine⟨_,rfl,?_⟩
  have h34:sat g _ (Mp m11 (mdel E12 (x,y,z))::_):=h33
  refine⟨kd [],nxN ?_⟩
  refine go [rd 6 0 2 0 1 h34] ?_
  have h36:sat g _ (Fd b n (clsX X (x,y,z))::_):=fd_close (nums_close hN13.1) om (clsA_as X _) (clsm_ok om) h34.d.d.t7
  exact en (iV 0) [] ⟨_,_,rfl,⟨by rw[show errA (As X) (x,y,z)=0 from by omega],rfl⟩,h36.d.a.t2⟩
 refine go [.v 3 1 (qnT (errA (As X) (x,y,z)) 0)] ?_
 have h39:sat g _ (Fd b n (clsX X (x,y,z))::_):=fd_close (nums_close hN13.1) om (clsA_as X _) (clsm_no om) h27.e.d.d.t7
 exact enR (iV (errA (As X) (x,y,z))) [] h39.d.a.t2
theorem fcopy_ht(b n:Nat)(X:Xs):HT prog 106 [pV b] [Fd b n X] (fun v K=> ∃b2:Nat,v=pV b2∧K= [Fd b n X,Fd b2 n X]):=by
 refine hiS func106 ntmps106 fun g w0 R h0=> ?_
 obtain⟨s10,m11,E12,hN13,h14⟩:=fd_open h0
 have e:=hN13.2
 have hb15:=tb_bd (j:=1) h14 rfl
 have hAl_:=hb15.1;have f:=hb15.2.1;have hok_:=hb15.2.2.2
 refine g0<|cl1 call169 (made_y b s10 m11) h14 fun _ h17=>g0<|dw (fls [0,1,2,3,5,6,7,8] (Tr.an 4 (Tr.an 9 (Tr.fl 10 (Tr.an 11 (Tr.fl 12 Tr.nil)))))) h17 fun _ h19=> ?_
 have h21:=h19.a.t4
 refine go [rd 3 3 0 0 1 h19,rd 3 8 0 1 1 h19]<|cG call120 (scopy_ht s10 n (As X)) h21 ?_
 rintro v K _ (⟨b20,rfl,rfl⟩) h23
 have h24:=ap2 h23
 refine⟨kd [rd 0 8 2 1 1 h24],?_⟩
 refine cG call170 (mclone m11 E12) h24.c.t5 ?_
 rintro v K _ (⟨m25,rfl,rfl⟩) h28
 have h29:=ap2 h28
 refine⟨kd [],?_⟩
 refine g0<|nG (fun q_=>pV q_) 281 [pV b20,.map (some m25)] h29 (fun r30 w31 h32=>⟨kd [],?_⟩)
 refine g0 ?_
 have h34:sat g _ (Fd r30 n X::_):=fd_close hN13.1 om rfl rfl h32.b.d.b.t7
 have h36:sat g _ (Fd b n X::_):=fd_close hN13.1 om rfl rfl h34.a.b.c.t5
 exact en (pV r30) [] ⟨_,_,rfl,⟨r30,rfl,rfl⟩,h36⟩
theorem fall_ht(b n:Nat)(X:Xs):HT prog 543 [pV b] [Fd b n X] (fun v K=> ∃(p:Option Addr) (c:Nat),v= .slice p ((inS 1 (As X) 0).length) c∧K= [Fd b n X,Sl 48 3 p ((inS 1 (As X) 0).length) c (fl eO (allX X))]):=by
 refine hiS func543 ntmps543 fun g w0 R h0=> ?_
 obtain⟨s10,m11,E12,hN13,h14⟩:=fd_open h0
 have f:=hN13.2
 have hb15:=tb_bd (j:=1) h14 rfl
 have hAl_:=hb15.1;have l:=hb15.2.1;have hok_:=hb15.2.2.2
 refine g0<|cl1 call169 (made_y b s10 m11) h14 fun _ h17=> ?_
 have h20:=h17.a.t4
 refine go [rd 4 3 0 0 1 h17]<|cP call459 (taken_ht s10 n (As X)) h20 ?_
 rintro v K w21 (⟨p18,c19,rfl,rfl⟩) h22
 have h23:=ap2 h22
 refine g0 ?_
 have hl_:((inS 1 (As X) 0).length)≤64:=by have m:=inS_len 1 (As X) 0;omega
 have h24:sat g _ (Sl 48 3 none 0 0 (fl eO [])::_):=sl_nil 48 3 h23
 refine lpS (fun mz_ a w=> ∃i:Nat,∃p2:Option Addr,∃c2:Nat,∃lr:Fr,mz_=((inS 1 (As X) 0).length)-i∧(i≤((inS 1 (As X) 0).length))∧a=mk 26 (([(3,.slice p2 i c2),(13,.slice p18 ((inS 1 (As X) 0).length) c19),(14,iV (((inS 1 (As X) 0).length:Nat):Int)),(15,iV i)]:Fr)++lr)∧sat g w [Sl 48 3 p2 i c2 (fl eO (((inS 1 (As X) 0).take i).map (fun r:Nat×Int=>((1,(r.1:Int),r.2):Ky)))),Sl 203 2 p18 ((inS 1 (As X) 0).length) c19 (fl eRf (inS 1 (As X) 0)),Cl b [pV s10,.map (some m11)] 281,Tb s10 n (As X),Mp m11 E12,R]) (((inS 1 (As X) 0).length)-0) ⟨0,none,0,_,rfl,(Nat.zero_le _),(lvF [.k 3 (.slice none 0 0),.k 13 (.slice p18 ((inS 1 (As X) 0).length) c19),.k 14 (iV (((inS 1 (As X) 0).length:Nat):Int)),.o 15 (oJ .i64 0 (0:Int))]),h24.c.c.b.t6⟩ ?_
 rintro m27 a28 w29 ⟨i,p2,c2,lr26,rfl,hi,rfl,h30⟩
 refine ga<|go [.s 5 0] ?_
 by_cases c31:(i:Int)<(((inS 1 (As X) 0).length:Nat):Int)
 ·
  obtain⟨b32,hp33⟩:=sl_ptr0 (j:=1) h30 rfl om
  refine go [.v 5 0 (oT _ c31),.s 6 0]<|lwP (.pointer (some ⟨b32,i*2,none⟩)) (liP (Ot 13) (Ot 15) p18 b32 0 (i:Int) ((inS 1 (As X) 0).length) c19 underlying392 2 i hp33 (i*2)) ?_
  have h34:=h30.a.t6
  have hl35:=fl_n eRf_ok dc h34
  obtain⟨x36,hx37⟩: ∃x,(inS 1 (As X) 0)[i]? =some x:=⟨_,List.getElem?_eq_getElem (by rw[hl35];omega)⟩
  refine go [.r 6 1 b32 (i*2) [iV (x36.1:Int),uV x36.2] ⟨gvc 0 h34 rfl hp33 eRf_ok 0 (iV (x36.1:Int)) hx37 (i*2),gvc 0 h34 rfl hp33 eRf_ok 1 (uV x36.2) hx37 (i*2+1),trivial⟩]<|nP 203 [iV 0,uV 0] h34 (fun r38 _ h40=> ?_)
  refine sA [iV (x36.1:Int),uV x36.2] h40 fun _ h42=>go [rd 7 1 0 0 2 h42]<|cl0 call399 (ffile (x36.1:Int) x36.2) h42 fun _ h44=>nG (fun q_=> .slice (some ⟨q_,0,none⟩) 1 1) 48 [iV 1,iV (x36.1:Int),uV x36.2] h44 (fun r45 _ h47=>⟨kd [],?_⟩)
  have h48:=h47.c.t8
  refine actG ?_
  refine aA 23 3 (Ot 19) (Ot 22) (.agg #[iV 0,iV 0,uV 0]) p2 i c2 1 1 (⟨r45,0,none⟩) 24 underlying514 h48 (fl eO [(1,(x36.1:Int),x36.2)]) rfl (cell1 h48 rfl) (fl_one eO_ok _) (i+1) ?_
  intro p49 cap50 w51 h52
  have h53:sat g _ (Sl 48 3 p49 (i+1) cap50 (fl eO ((((inS 1 (As X) 0).take i).map (fun r:Nat×Int=>((1,(r.1:Int),r.2):Ky)))++ [(1,(x36.1:Int),x36.2)]))::_):=sJ h52
  obtain⟨hn54,hn55⟩:=sl_le h53
  refine nxA<|go [.v 8 0 (oIr ((i:Int)+1))] ?_
  refine enL ?_
  have h56:sat g _ (Sl 48 3 p49 (i+1) cap50 (fl eO (((inS 1 (As X) 0).take (i+1)).map (fun r:Nat×Int=>((1,(r.1:Int),r.2):Ky))))::_):=sat_imp h53 (fun _ hh_=>by rw[show (((((inS 1 (As X) 0).take i).map (fun r:Nat×Int=>((1,(r.1:Int),r.2):Ky)))++ [(1,(x36.1:Int),x36.2)]):List Ky)=(((inS 1 (As X) 0).take (i+1)).map (fun r:Nat×Int=>((1,(r.1:Int),r.2):Ky))) from tk_map (fun r:Nat×Int=>((1,(r.1:Int),r.2):Ky)) hx37] at hh_;exact hh_)
  have h58:=tk6 h56.x.x.x.x.x.e.t8
  change ∃n',n'<_∧_
  refine⟨(((inS 1 (As X) 0).length)-(i+1)),by omega,(i+1),p49,cap50,_,rfl,om,(lvF [.k 3 (.slice p49 (i+1) cap50),.k 13 (.slice p18 ((inS 1 (As X) 0).length) c19),.k 14 (iV (((inS 1 (As X) 0).length:Nat):Int)),.o 15 (oJ .i64 ((i:Int)+1) (((i+1):Nat):Int))]),h58⟩
 refine go [.v 5 0 (oF _ c31)]<|up<|g0 ?_
 have h59:sat g _ (Sl 48 3 p2 i c2 (fl eO (allX X))::_):=sat_imp h30 (fun _ hh_=>by rw[show ((((inS 1 (As X) 0).take i).map (fun r:Nat×Int=>((1,(r.1:Int),r.2):Ky))):List Ky)=(allX X) from (tk_all_map _ om)] at hh_;exact hh_)
 have hi_:i=((inS 1 (As X) 0).length):=by omega
 have h60:sat g _ (Sl 48 3 p2 ((inS 1 (As X) 0).length) c2 (fl eO (allX X))::_):=sat_imp h59 (fun _ hh_=>by rw[hi_] at hh_;exact hh_)
 have h62:sat g _ (Fd b n X::_):=fd_close hN13.1 om rfl rfl h60.d.d.d.t6
 exact en (.slice p2 i c2) [] ⟨_,_,rfl,⟨p2,c2,by rw[hi_],rfl⟩,h62.C.t3⟩
def ix(z:Int):Int:=if z=111 then 0 else if z=108 then 1 else if z=102 then 2 else -1
def lt(z:Int):UInt8:=if z=1 then 111 else if z=2 then 108 else 102
theorem lt1{z:Int}(h:z=1):lt z=111:=by subst h;rfl
theorem hd_tl{L:List Int}{x:Int}(h:L[0]? =some x):L.headD 1=x:=by
 cases L with
 |nil=>simp at h
 |cons y L=>simpa using h
theorem tl_drop(L:List Int):L.drop 1=L.tail:=by simp
end Go.Proofs.YtcgkoffnknpgjaaGreatDoor
