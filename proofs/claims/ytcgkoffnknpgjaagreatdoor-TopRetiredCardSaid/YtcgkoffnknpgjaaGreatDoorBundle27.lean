/-
  The entries of a table of resources, as plain functions. No program in sight.
-/
import Derived.Test.YtcgkoffnknpgjaaGreatDoorBundle25
import Derived.Test.YtcgkoffnknpgjaaGreatDoorHq
import Derived.Test.YtcgkoffnknpgjaaGreatDoorMpg
import Derived.Test.YtcgkoffnknpgjaaGreatDoorRf2
import Derived.Test.YtcgkoffnknpgjaaGreatDoorFdsP
import Derived.Test.YtcgkoffnknpgjaaGreatDoorBundle22
namespace Go.Proofs.YtcgkoffnknpgjaaGreatDoor
set_option linter.unusedVariables false
set_option linter.unusedSimpArgs false
open Tryz
set_option maxHeartbeats 4000000
structure Ety where
 d:Ky
 num:Int
 h:Int×Int
def vE(e:Ety):Value:= .agg #[iV e.d.1,iV e.d.2.1,uV e.d.2.2,iV e.num,iV e.h.1,uV e.h.2]
abbrev Tm:=List (Int×Ety)
def KN(E:Tm):Prop:=(E.map (·.1)).Nodup
def Meq(E0 E:Tm):Prop:=KN E0∧KN E∧ ∀k:Int,gget E0 k=gget E k
theorem gget_none{E:Tm}{k:Int}:gget E k=none↔k∉E.map (·.1):=by
 induction E with
 |nil=>simp[gget]
 |cons q E ih=>
  obtain⟨a,v⟩:=q
  simp only[gget,List.map_cons,List.mem_cons,not_or]
  split
  · rename_i h
    subst h
    simp
  · rename_i h
    rw[ih]
    exact⟨fun h2=>⟨h,h2⟩,fun h2=>h2.2⟩
theorem keys_set(E:Tm)(k:Int)(v:Ety): ∀a,a∈(gset E k v).map (·.1)↔a=k∨a∈E.map (·.1):=by
 induction E with
 |nil=>intro a;simp[gset]
 |cons q E ih=>
  intro a
  obtain⟨b,u⟩:=q
  simp only[gset]
  split
  · rename_i h
    subst h
    simp only[List.map_cons,List.mem_cons]
    constructor
    · rintro(h|h)
      · exact .inl h
      · exact .inr (.inr h)
    · rintro(h|h|h)
      · exact .inl h
      · exact .inl h
      · exact .inr h
  · simp only[List.map_cons,List.mem_cons,ih a]
    constructor
    · rintro(h|h|h)
      · exact .inr (.inl h)
      · exact .inl h
      · exact .inr (.inr h)
    · rintro(h|h|h)
      · exact .inr (.inl h)
      · exact .inl h
      · exact .inr (.inr h)
theorem kn_set{E:Tm}{k:Int}{v:Ety}(h:KN E):KN (gset E k v):=by
 induction E with
 |nil=>exact List.nodup_cons.2 ⟨by simp,List.nodup_nil⟩
 |cons q E ih=>
  obtain⟨b,u⟩:=q
  have h':(b::E.map (·.1)).Nodup:=h
  obtain⟨h1,h2⟩:=List.nodup_cons.1 h'
  unfold KN
  simp only[gset]
  split
  · exact h
  · rename_i hk
    refine List.nodup_cons.2 ⟨fun hm=> ?_,ih h2⟩
    rcases(keys_set E k v b).1 hm with h3|h3
    · exact hk h3.symm
    · exact h1 h3
theorem del_sub(E:Tm)(k:Int):((gdel E k).map (·.1)).Sublist (E.map (·.1)):=by
 induction E with
 |nil=>exact List.Sublist.refl _
 |cons q E ih=>
  obtain⟨b,u⟩:=q
  simp only[gdel]
  split
  · exact List.sublist_cons_self _ _
  · exact List.Sublist.cons_cons _ ih
theorem kn_del{E:Tm}{k:Int}(h:KN E):KN (gdel E k):=List.Nodup.sublist (del_sub E k) h
theorem gget_del_self{E:Tm}{k:Int}(h:KN E):gget (gdel E k) k=none:=by
 induction E with
 |nil=>rfl
 |cons q E ih=>
  obtain⟨b,u⟩:=q
  have h':(b::E.map (·.1)).Nodup:=h
  obtain⟨h1,h2⟩:=List.nodup_cons.1 h'
  simp only[gdel]
  split
  · rename_i hk
    subst hk
    exact gget_none.2 h1
  · rename_i hk
    simp only[gget]
    rw[if_neg hk]
    exact ih h2
theorem meq_refl{E:Tm}(h:KN E):Meq E E:=⟨h,h,fun _=>rfl⟩
theorem meq_set{E0 E:Tm}(h:Meq E0 E)(k:Int)(v:Ety):Meq (gset E0 k v) (gset E k v):=⟨kn_set h.1,kn_set h.2.1,fun a=>by rw[gget_set,gget_set,h.2.2]⟩
theorem meq_del{E0 E:Tm}(h:Meq E0 E)(k:Int):Meq (gdel E0 k) (gdel E k):=⟨kn_del h.1,kn_del h.2.1,fun a=>by
 by_cases ha:a=k
 · subst ha
   rw[gget_del_self h.1,gget_del_self h.2.1]
 · rw[gget_del ha,gget_del ha,h.2.2]⟩
def someE(E:Tm)(k:Nat):List Ety:=(List.range k).filterMap fun j:Nat=>gget E (j:Int)
def allE(E:Tm):List Ety:=someE E 256
theorem someE_go{E:Tm}{k:Nat}{e:Ety}(h:gget E (k:Int)=some e):someE E (k+1)=someE E k++ [e]:=by
 unfold someE
 rw[List.range_succ,List.filterMap_append]
 simp[h]
theorem someE_no{E:Tm}{k:Nat}(h:gget E (k:Int)=none):someE E (k+1)=someE E k:=by
 unfold someE
 rw[List.range_succ,List.filterMap_append]
 simp[h]
theorem someE_pre{E:Tm}{k m:Nat}(h:k≤m): ∃T,someE E m=someE E k++T:=by
 obtain⟨d,rfl⟩: ∃d,m=k+d:=⟨m-k,by omega⟩
 induction d with
 |zero=>exact⟨[],by simp⟩
 |succ d ih=>
  obtain⟨T,hT⟩:=ih om
  cases hg:gget E ((k+d:Nat):Int) with
  |none=>exact⟨T,by rw[←Nat.add_assoc,someE_no hg,hT]⟩
  |some e=>exact⟨T++ [e],by rw[←Nat.add_assoc,someE_go hg,hT,List.append_assoc]⟩
theorem allE_at{E:Tm}{k:Nat}{e:Ety}(h:gget E (k:Int)=some e)(hk:k<256):(allE E)[(someE E k).length]? =some e:=by
 obtain⟨T,hT⟩:=someE_pre (E:=E) (k:=k+1) (m:=256) hk
 unfold allE
 rw[hT,someE_go h,List.append_assoc,List.getElem?_append_right (Nat.le_refl _),Nat.sub_self]
 rfl
theorem cntE_go{E:Tm}{k:Nat}{e:Ety}(h:gget E (k:Int)=some e):(someE E (k+1)).length=(someE E k).length+1:=by rw[someE_go h,List.length_append];rfl
theorem cntE_no{E:Tm}{k:Nat}(h:gget E (k:Int)=none):(someE E (k+1)).length=(someE E k).length:=by rw[someE_no h]
theorem cntE_le(E:Tm): ∀k,(someE E k).length≤k
 |0=>Nat.le_refl _
 |k+1=>by
  have:=cntE_le E k
  cases hg:gget E (k:Int) with
  |none=>rw[cntE_no hg];omega
  |some e=>rw[cntE_go hg];omega
def noE:Ety:=⟨(0,0,0),0,(0,0)⟩
theorem getD_mem{α:Type}{L:List α}{i:Nat}{d:α}(h:i<L.length):L.getD i d∈L:=by
 rw[getD_some (List.getElem?_eq_getElem h)]
 exact List.getElem_mem h
theorem getD_all{α:Type}{L:List α}{d:α}{P:α→Prop}(h: ∀j:Nat,j<L.length→P (L.getD j d)): ∀e∈L,P e:=fun e he=>by
 obtain⟨j,hj⟩:=List.getElem?_of_mem he
 have:=h j (List.getElem?_eq_some_iff.1 hj).1
 rw[getD_some hj] at this
 exact this
theorem upto_go{P:Nat→Prop}{i:Nat}(h: ∀j:Nat,j<i→P j)(hi:P i): ∀j:Nat,j<i+1→P j:=fun j hj=>by
 rcases Nat.lt_succ_iff_lt_or_eq.1 hj with h1|rfl
 · exact h j h1
 · exact hi
theorem ne_pair{p:Int×Int}{a b:Int}(h: ¬(p.1=a∧p.2=b)):p≠(a,b):=by
 rintro rfl
 exact h ⟨rfl,rfl⟩
def descT(E:Tm)(v:Int)(i:Nat):List Ky:=((allE E).take i).filterMap fun e=>if e.num=v then some e.d else none
def descs(E:Tm)(v:Int):List Ky:=(allE E).filterMap fun e=>if e.num=v then some e.d else none
theorem descT_all(E:Tm)(v:Int):descT E v (allE E).length=descs E v:=by unfold descT descs;rw[List.take_length]
theorem descT_go{E:Tm}{v:Int}{i:Nat}(hi:i<(allE E).length)(h:((allE E).getD i noE).num=v):descT E v i++ [((allE E).getD i noE).d]=descT E v (i+1):=by
 unfold descT
 rw[←take_getD (d:=noE) hi,List.filterMap_append]
 simp only[List.filterMap_cons,List.filterMap_nil,if_pos h]
theorem descT_no{E:Tm}{v:Int}{i:Nat}(hi:i<(allE E).length)(h:((allE E).getD i noE).num≠v):descT E v i=descT E v (i+1):=by
 unfold descT
 rw[←take_getD (d:=noE) hi,List.filterMap_append]
 simp only[List.filterMap_cons,List.filterMap_nil,if_neg h,List.append_nil]
section
def Tab(b n:Nat)(A:List Sl2)(E:Tm)(R:List Rs):Assn:=fun h=> ∃x:Nat×Nat×Option Addr×Nat×Tm,(Meq x.2.2.2.2 E∧R.length≤2000)∧
 star [Cl b [.pointer (some ⟨x.1,0,none⟩),.map (some x.2.1),.slice x.2.2.1 R.length x.2.2.2.1] 177,Tb x.1 n A,Gp kI vE x.2.1 x.2.2.2.2,Sl 226 8 x.2.2.1 R.length x.2.2.2.1 (fl eRs R)] h
section
variable {g w : World} {L : List Assn} {b n : Nat} {A : List Sl2} {E : Tm} {R : List Rs}
theorem tab_open(h:sat g w (Tab b n A E R::L)): ∃s m p c E0,(Meq E0 E∧R.length≤2000)∧sat g w (Cl b [pV s,.map (some m),.slice p R.length c] 177::Tb s n A::Gp kI vE m E0::Sl 226 8 p R.length c (fl eRs R)::L):=by
 obtain⟨⟨s,m,p,c,E0⟩,h1,h2⟩:=sat_open (X:=Nat×Nat×Option Addr×Nat×Tm) (p:=fun x=>Meq x.2.2.2.2 E∧R.length≤2000) (B:=fun x=>star [Cl b [.pointer (some ⟨x.1,0,none⟩),.map (some x.2.1),.slice x.2.2.1 R.length x.2.2.2.1] 177,Tb x.1 n A,Gp kI vE x.2.1 x.2.2.2.2,Sl 226 8 x.2.2.1 R.length x.2.2.2.1 (fl eRs R)]) h (fun k hk=>hk)
 exact⟨s,m,p,c,E0,h1,sat_unstar h2⟩
theorem tab_close{s m c k:Nat}{p:Option Addr}{E0:Tm}(h1:Meq E0 E)(h2:R.length≤2000)(hk:k=R.length)(h:sat g w (Cl b [pV s,.map (some m),.slice p k c] 177::Tb s n A::Gp kI vE m E0::Sl 226 8 p k c (fl eRs R)::L)):sat g w (Tab b n A E R::L):=by
 subst hk
 exact sat_imp (sat_star (K:= [Cl b [pV s,.map (some m),.slice p R.length c] 177,Tb s n A,Gp kI vE m E0,Sl 226 8 p R.length c (fl eRs R)]) h) fun k hk=>⟨(s,m,p,c,E0),⟨h1,h2⟩,hk⟩
end
def TabX(b n:Nat)(A:List Sl2)(E:Tm)(R:List Rs)(p:Option Addr)(k c:Nat):Assn:=fun h=> ∃x:Nat×Nat×Tm,(Meq x.2.2 E∧R.length≤2000)∧
 star [Cl b [.pointer (some ⟨x.1,0,none⟩),.map (some x.2.1),.slice p k c] 177,Tb x.1 n A,Gp kI vE x.2.1 x.2.2,Sl 226 8 p k c (fl eRs R)] h
section
variable {g w : World} {L : List Assn} {b n k : Nat} {A : List Sl2} {E : Tm} {R : List Rs} {p : Option Addr} {c : Nat}
theorem tabx_open(h:sat g w (TabX b n A E R p k c::L)): ∃s m E0,(Meq E0 E∧R.length≤2000)∧sat g w (Cl b [pV s,.map (some m),.slice p k c] 177::Tb s n A::Gp kI vE m E0::Sl 226 8 p k c (fl eRs R)::L):=by
 obtain⟨⟨s,m,E0⟩,h1,h2⟩:=sat_open (X:=Nat×Nat×Tm) (p:=fun x=>Meq x.2.2 E∧R.length≤2000) (B:=fun x=>star [Cl b [.pointer (some ⟨x.1,0,none⟩),.map (some x.2.1),.slice p k c] 177,Tb x.1 n A,Gp kI vE x.2.1 x.2.2,Sl 226 8 p k c (fl eRs R)]) h (fun k hk=>hk)
 exact⟨s,m,E0,h1,sat_unstar h2⟩
theorem tabx_close{s m:Nat}{E0:Tm}(h1:Meq E0 E)(h2:R.length≤2000)(h:sat g w (Cl b [pV s,.map (some m),.slice p k c] 177::Tb s n A::Gp kI vE m E0::Sl 226 8 p k c (fl eRs R)::L)):sat g w (TabX b n A E R p k c::L):=
 sat_imp (sat_star (K:= [Cl b [pV s,.map (some m),.slice p k c] 177,Tb s n A,Gp kI vE m E0,Sl 226 8 p k c (fl eRs R)]) h) fun k hk=>⟨(s,m,E0),⟨h1,h2⟩,hk⟩
end
theorem kyI:KyOk prog 3 kI:=kyInt underlying3
theorem tvalid_ht(b n:Nat)(A:List Sl2)(E:Tm)(RL:List Rs):HQ 119 [pV b] [Tab b n A E RL] (.bool true) [Tab b n A E RL]:=by
 refine hiS func119 ntmps119 fun g w0 R h0=> ?_
 obtain⟨s10,m11,p12,c13,E14,hM15,h16⟩:=tab_open h0
 have hRl_:=hM15.2
 refine go [rd 1 6 0 1 1 h16] ?_
 have h17:sat g _ (Tab b n A E RL::_):=tab_close hM15.1 om (by first|rfl |omega) h16
 exact enR _ [] h17
theorem obj_t(i gn:Int)(h:0≤i∧i≤255∧1≤gn):HQ 275 [.agg #[iV i,uV gn]] [] (.bool true) []:=by
 refine hiS func275 ntmps275 fun g w0 R h0=>g0<|nP 203 [iV i,uV gn] h0 (fun _ _ h12=> ?_)
 refine go [rd 1 1 0 0 1 h12,.v 1 2 (oT (i≥0)),rd 1 5 0 0 1 h12,.v 1 6 (oT (i<256)),rd 1 10 0 1 1 h12,.v 1 11 (oT (gn>0))] ?_
 exact enR _ [] h12.a.t1
theorem obj_f(i gn:Int)(h:i<0∨255<i∨gn≤0):HQ 275 [.agg #[iV i,uV gn]] [] (.bool false) []:=by
 refine hiS func275 ntmps275 fun g w0 R h0=>g0<|nP 203 [iV i,uV gn] h0 (fun _ _ h12=> ?_)
 refine go [rd 1 1 0 0 1 h12,.s 1 2] ?_
 by_cases c13:i≥0
 ·
  refine go [.v 1 2 (oT _ c13),rd 1 5 0 0 1 h12,.s 1 6] ?_
  by_cases c14:i<256
  ·
   refine go [.v 1 6 (oT _ c14),rd 1 10 0 1 1 h12,.v 1 11 (oF (gn>0))] ?_
   exact enR _ [] h12.a.t1
  refine go [.v 1 6 (oF _ c14)] ?_
  exact enR _ [] h12.a.t1
 refine go [.v 1 2 (oF _ c13)] ?_
 exact enR _ [] h12.a.t1
theorem tall1_ht(b:Nat):HT prog 354 [pV b] [] (fun v K=> ∃c:Nat,v= .func (Fn.func 402) #[] #[pV c]∧K= [Cl c [pV b] 80]):=by
 refine hiS func354 ntmps354 fun g w0 R h0=>g0<|nP 80 [pV b] h0 (fun r10 _ h12=> ?_)
 refine g0 ?_
 exact en (.func (Fn.func 402) #[] #[pV r10]) [] ⟨_,_,rfl,⟨r10,rfl,rfl⟩,h12⟩
theorem tall_it(c b n:Nat)(A:List Sl2)(E:Tm)(RL:List Rs):IT prog 402 [pV c] ((allE E).length) (fun i=> [vE ((allE E).getD i noE)]) [Cl c [pV b] 80,Tab b n A E RL]:=by
 refine itS func402 ntmps402 fun g w0 R k_ J_ E_ hY h0=> ?_
 have h10:sat g _ (J_ 0::_):=h0
 refine g0 ?_
 refine lpS (fun mz_ a w=> ∃k:Nat,∃lr:Fr,mz_=256-k∧(k≤256)∧a=mk 26 (([(0,.func (Fn.yield k_) #[] #[]),(1,pV c),(6,iV k)]:Fr)++lr)∧sat g w [J_ ((someE E k).length),Cl c [pV b] 80,Tab b n A E RL,R]) (256-0) ⟨0,_,rfl,(Nat.zero_le _),(lvF [.k 0 (.func (Fn.yield k_) #[] #[]),.k 1 (pV c),.o 6 (oJ .i64 0 (0:Int))]),h10⟩ ?_
 rintro m12 a13 w14 ⟨k,lr11,rfl,hk,rfl,h15⟩
 refine ga<|go [.s 1 0] ?_
 by_cases c16:(k:Int)<256;rotate_left
 ·
  refine go [.v 1 0 (oF _ c16)]<|up<|g0 ?_
  have he_:((someE E k).length)=((allE E).length):=(by show _=(someE E 256).length;rw[show k=256 from by omega])
  exact en (.tuple #[]) [] ⟨⟨_,rfl⟩,.inl (he_▸h15)⟩
 obtain⟨s18,m19,p20,c21,E22,hM23,h24⟩:=tab_open h15.b.t4
 have hRl_:=hM23.2
 refine go [.v 1 0 (oT _ c16),rd 3 0 1 0 1 h15,rd 3 3 0 1 1 h24] ?_
 rcases hg26:gget E (k:Int) with _|e25
 ·
  refine actG ?_
  refine act_law (d:=15) (.tuple #[.agg #[iV 0,iV 0,uV 0,iV 0,iV 0,uV 0],.bool false]) kr rfl (law_lookupOk (t:=174) (z:= .agg #[iV 0,iV 0,uV 0,iV 0,iV 0,uV 0]) (m:=Ot 13) (x:=Ot 14) (kv:=kI) (ve:=vE) kr underlying174 kyI kr (k:Int) kr kr (j:=2) h24 rfl (.agg #[iV 0,iV 0,uV 0,iV 0,iV 0,uV 0]) false (by rw[hM23.1.2.2 (k:Int),hg26];exact⟨rfl,rfl⟩)) ?_
  refine nxA<|g0<|nP 228 [iV 0,iV 0,uV 0,iV 0,iV 0,uV 0] h24 (fun r27 _ h29=> ?_)
  refine sA [iV 0,iV 0,uV 0,iV 0,iV 0,uV 0] h29 fun w30 h31=> ?_
  have h33:sat g _ (Tab b n A E RL::_):=tab_close hM23.1 om (by first|rfl |omega) h31.d.d.d.d.t8
  refine go [.s 4 99999] ?_
  refine plS 4<|g0 ?_
  refine yN 4<|go [.v 5 0 (oIr ((k:Int)+1))] ?_
  refine enL ?_
  have h34:=h33.b.t5
  have h35:sat g w30 [J_ ((someE E (k+1)).length),Tab b n A E RL,Cl r27 [iV 0,iV 0,uV 0,iV 0,iV 0,uV 0] 228,Cl c [pV b] 80,R]:=(show ((someE E k).length)=(someE E (k+1)).length from (cntE_no hg26).symm)▸h34
  have h37:=tk4 h35.d.b.d.c.t5
  change ∃n',n'<_∧_
  refine⟨(256-(k+1)),by omega,(k+1),_,rfl,om,(lvF [.k 0 (.func (Fn.yield k_) #[] #[]),.k 1 (pV c),.o 6 (oJ .i64 ((k:Int)+1) (((k+1):Nat):Int))]),h37⟩
 refine actG ?_
 refine act_law (d:=15) (.tuple #[.agg #[iV e25.d.1,iV e25.d.2.1,uV e25.d.2.2,iV e25.num,iV e25.h.1,uV e25.h.2],.bool true]) kr rfl (law_lookupOk (t:=174) (z:= .agg #[iV 0,iV 0,uV 0,iV 0,iV 0,uV 0]) (m:=Ot 13) (x:=Ot 14) (kv:=kI) (ve:=vE) kr underlying174 kyI kr (k:Int) kr kr (j:=2) h24 rfl (.agg #[iV e25.d.1,iV e25.d.2.1,uV e25.d.2.2,iV e25.num,iV e25.h.1,uV e25.h.2]) true (by rw[hM23.1.2.2 (k:Int),hg26];exact⟨rfl,rfl⟩)) ?_
 refine nxA<|g0<|nP 228 [iV 0,iV 0,uV 0,iV 0,iV 0,uV 0] h24 (fun r38 _ h40=> ?_)
 refine sA [iV e25.d.1,iV e25.d.2.1,uV e25.d.2.2,iV e25.num,iV e25.h.1,uV e25.h.2] h40 fun w41 h42=> ?_
 have h44:sat g _ (Tab b n A E RL::_):=tab_close hM23.1 om (by first|rfl |omega) h42.d.d.d.d.t8
 refine go [.s 4 99999] ?_
 refine plS 4 ?_
 have h45:=h44.c.c.t5
 refine go [rd 4 3 1 0 6 h44] ?_
 refine yY 4 (args:= [Value.agg #[iV e25.d.1,iV e25.d.2.1,uV e25.d.2.2,iV e25.num,iV e25.h.1,uV e25.h.2]]) (xa:=(fun i=> [vE ((allE E).getD i noE)]) ((someE E k).length)) (by show [vE ((allE E).getD ((someE E k).length) noE)]=_;rw[getD_some (allE_at hg26 om)];rfl) (hY ((someE E k).length) ((List.getElem?_eq_some_iff.1 (allE_at hg26 om)).1) _ [Cl r38 [iV e25.d.1,iV e25.d.2.1,uV e25.d.2.2,iV e25.num,iV e25.h.1,uV e25.h.2] 228,R] h45) ?_ ?_
 ·
  intro w46 h47
  have h48:sat g _ (J_ (((someE E k).length)+1)::_):=h47
  have hlt49:=((List.getElem?_eq_some_iff.1 (allE_at hg26 om)).1:((someE E k).length)<((allE E).length))
  refine go [.v 5 0 (oIr ((k:Int)+1))] ?_
  refine enL ?_
  have h50:sat g w46 [J_ ((someE E (k+1)).length),Cl c [pV b] 80,Tab b n A E RL,Cl r38 [iV e25.d.1,iV e25.d.2.1,uV e25.d.2.2,iV e25.num,iV e25.h.1,uV e25.h.2] 228,R]:=(show ((someE E k).length)+1=(someE E (k+1)).length from (cntE_go hg26).symm)▸h48
  have h52:=tk4 h50.d.c.c.c.t5
  change ∃n',n'<_∧_
  refine⟨(256-(k+1)),by omega,(k+1),_,rfl,om,(lvF [.k 0 (.func (Fn.yield k_) #[] #[]),.k 1 (pV c),.o 6 (oJ .i64 ((k:Int)+1) (((k+1):Nat):Int))]),h52⟩
 intro w53 h54
 have h55:sat g _ (E_ ((someE E k).length)::_):=h54
 have hlt56:=((List.getElem?_eq_some_iff.1 (allE_at hg26 om)).1:((someE E k).length)<((allE E).length))
 refine g0<|up<|g0 ?_
 exact en (.tuple #[]) [] ⟨⟨_,rfl⟩,.inr ⟨((someE E k).length),om,(tk2 h55.b.a.t3)⟩⟩
end
theorem seq39_neq_t{n:Nat}{l:Fr}{o:Oper}{x y:Operand}(a0 a1 a2 c0 c1 c2:Int)(ho:o.op= .binOp .neq 39 x y 39)(hx:fe n l x= .agg #[iV a0,iV a1,uV a2])(hy:fe n l y= .agg #[iV c0,iV c1,uV c2])(h:a0=c0∧a1=c1∧a2=c2)(w:World):(execOp (fe n l) o).run prog w= .ok (.value (.bool false)) w:=by
 obtain⟨rfl,rfl,rfl⟩:=h
 simp[execOp,ho,hx,hy,go_sem]
theorem seq39_neq_f{n:Nat}{l:Fr}{o:Oper}{x y:Operand}(a0 a1 a2 c0 c1 c2:Int)(ho:o.op= .binOp .neq 39 x y 39)(hx:fe n l x= .agg #[iV a0,iV a1,uV a2])(hy:fe n l y= .agg #[iV c0,iV c1,uV c2])(h: ¬(a0=c0∧a1=c1∧a2=c2))(w:World):(execOp (fe n l) o).run prog w= .ok (.value (.bool true)) w:=by
 by_cases h0:a0=c0
 · skip
   by_cases h1:a1=c1
   · skip
     by_cases h2:a2=c2
     · exact absurd ⟨h0,h1,h2⟩ h
     · simp[execOp,ho,hx,hy,go_sem,h0,h1,h2]
   · simp[execOp,ho,hx,hy,go_sem,h0,h1]
 · simp[execOp,ho,hx,hy,go_sem,h0]
theorem tfind_bad(b n:Nat)(A:List Sl2)(E:Tm)(RL:List Rs)(x y z:Int)(hz0:0≤z)(hz1:z≤4294967295)(ho: ¬(1≤x∧x≤3∧0≤y∧y≤255∧1≤z)):HQ 283 [pV b,.agg #[iV x,iV y,uV z]] [Tab b n A E RL] (.tuple #[.agg #[iV 0,iV 0,uV 0,iV 0,iV 0,uV 0],iV 2]) [Tab b n A E RL]:=by
 refine hiS func283 ntmps283 fun g w0 R h0=>g0<|nP 39 [iV x,iV y,uV z] h0 (fun _ _ h12=> ?_)
 refine nP 228 [iV 0,iV 0,uV 0,iV 0,iV 0,uV 0] h12 (fun _ _ h15=> ?_)
 have h16:=h15.b.t4
 refine g0<|cl1 call119 (tvalid_ht b n A E RL) h16 fun _ h18=>go [rd 3 0 2 0 3 h18] ?_
 by_cases c19:1≤x
 ·
  by_cases c20:x≤3
  ·
   by_cases c21:0≤y
   ·
    by_cases c22:y≤255
    ·
     refine cl0 call281 (cdesc_no x y z om om om) h18 fun _ h24=> ?_
     have h25:=h24.a.t4
     refine g0<|sA [iV 0,iV 0,uV 0,iV 0,iV 0,uV 0] h25 fun _ h27=>g0 ?_
     exact enR _ [rd 0 0 0 0 6 h27] (tk2 (sf1 (sf3 h27.a.t4)))
    refine cl0 call281 (cdesc_no x y z om om om) h18 fun _ h31=> ?_
    have h32:=h31.a.t4
    refine g0<|sA [iV 0,iV 0,uV 0,iV 0,iV 0,uV 0] h32 fun _ h34=>g0 ?_
    exact enR _ [rd 0 0 0 0 6 h34] (tk2 (sf1 (sf3 h34.a.t4)))
   refine cl0 call281 (cdesc_no x y z om om om) h18 fun _ h38=> ?_
   have h39:=h38.a.t4
   refine g0<|sA [iV 0,iV 0,uV 0,iV 0,iV 0,uV 0] h39 fun _ h41=>g0 ?_
   exact enR _ [rd 0 0 0 0 6 h41] (tk2 (sf1 (sf3 h41.a.t4)))
  refine cl0 call281 (cdesc_no x y z om om om) h18 fun _ h45=> ?_
  have h46:=h45.a.t4
  refine g0<|sA [iV 0,iV 0,uV 0,iV 0,iV 0,uV 0] h46 fun _ h48=>g0 ?_
  exact enR _ [rd 0 0 0 0 6 h48] (tk2 (sf1 (sf3 h48.a.t4)))
 refine cl0 call281 (cdesc_no x y z om om om) h18 fun _ h52=> ?_
 have h53:=h52.a.t4
 refine g0<|sA [iV 0,iV 0,uV 0,iV 0,iV 0,uV 0] h53 fun _ h55=>g0 ?_
 exact enR _ [rd 0 0 0 0 6 h55] (tk2 (sf1 (sf3 h55.a.t4)))
theorem tfind_none(b n:Nat)(A:List Sl2)(E:Tm)(RL:List Rs)(x y z:Int)(hz0:0≤z)(hz1:z≤4294967295)(ho:1≤x∧x≤3∧0≤y∧y≤255∧1≤z)(hg_:gget E y=none):HQ 283 [pV b,.agg #[iV x,iV y,uV z]] [Tab b n A E RL] (.tuple #[.agg #[iV 0,iV 0,uV 0,iV 0,iV 0,uV 0],iV 7]) [Tab b n A E RL]:=by
 refine hiS func283 ntmps283 fun g w0 R h0=>g0<|nP 39 [iV x,iV y,uV z] h0 (fun r10 _ h12=> ?_)
 refine nP 228 [iV 0,iV 0,uV 0,iV 0,iV 0,uV 0] h12 (fun r13 _ h15=> ?_)
 have h16:=h15.b.t4
 refine g0<|cl1 call119 (tvalid_ht b n A E RL) h16 fun _ h18=>go [rd 3 0 2 0 3 h18]<|cl0 call281 (cdesc_ok x y z om om om) h18 fun _ h20=>g0<|dw (fls [0,1,2,3,4,5] (Tr.an2 6 (fls [7,8,9] (Tr.an 10 (Tr.an 11 (Tr.fl 12 Tr.nil)))) 10 (Tr.an 6 (fls [7,8,9] (Tr.an 11 (Tr.fl 12 Tr.nil)))))) h20 fun _ h22=> ?_
 obtain⟨s23,m24,p25,c26,E27,hM28,h29⟩:=tab_open h22
 have hRl_:=hM28.2
 refine go [rd 5 3 0 1 1 h29,rd 5 5 5 1 1 h29] ?_
 refine br2 ?_ ?_
 ·
  refine actG ?_
  refine act_law (d:=25) (.tuple #[.agg #[iV 0,iV 0,uV 0,iV 0,iV 0,uV 0],.bool false]) kr rfl (law_lookupOk (t:=174) (z:= .agg #[iV 0,iV 0,uV 0,iV 0,iV 0,uV 0]) (m:=Ot 22) (x:=Ot 24) (kv:=kI) (ve:=vE) kr underlying174 kyI kr y kr kr (j:=2) h29 rfl (.agg #[iV 0,iV 0,uV 0,iV 0,iV 0,uV 0]) false (by rw[hM28.1.2.2 y,hg_];exact⟨rfl,rfl⟩)) ?_
  refine⟨kd [],nxG ?_⟩
  refine g0<|nG (fun q_=>pV q_) 228 [iV 0,iV 0,uV 0,iV 0,iV 0,uV 0] h29 (fun r30 _ h32=>⟨kd [],?_⟩)
  refine sB [iV 0,iV 0,uV 0,iV 0,iV 0,uV 0] h32 fun _ h34=>⟨kd [],?_⟩
  have h35:=h34.e.t8
  refine g0<|sA [iV 0,iV 0,uV 0,iV 0,iV 0,uV 0] h35 fun w36 h37=>g0 ?_
  have h39:sat g _ (Tab b n A E RL::_):=tab_close hM28.1 om (by first|rfl |omega) h37.e.e.e.e.t8
  exact enR _ [rd 0 0 0 0 6 h37] h39.d.a.t2
 refine nG (fun q_=>pV q_) 228 [iV 0,iV 0,uV 0,iV 0,iV 0,uV 0] h29 (fun r41 _ h43=>⟨kd [rd 0 5 6 1 1 h43,rd 0 3 1 1 1 h43],?_⟩)
 refine actG ?_
 refine act_law (d:=25) (.tuple #[.agg #[iV 0,iV 0,uV 0,iV 0,iV 0,uV 0],.bool false]) kr rfl (law_lookupOk (t:=174) (z:= .agg #[iV 0,iV 0,uV 0,iV 0,iV 0,uV 0]) (m:=Ot 22) (x:=Ot 24) (kv:=kI) (ve:=vE) kr underlying174 kyI kr y kr kr (j:=3) h43 rfl (.agg #[iV 0,iV 0,uV 0,iV 0,iV 0,uV 0]) false (by rw[hM28.1.2.2 y,hg_];exact⟨rfl,rfl⟩)) ?_
 refine⟨kd [],nxG ?_⟩
 refine g0<|sB [iV 0,iV 0,uV 0,iV 0,iV 0,uV 0] h43 fun _ h45=>⟨kd [],?_⟩
 have h46:=h45.e.t8
 refine g0<|sA [iV 0,iV 0,uV 0,iV 0,iV 0,uV 0] h46 fun w47 h48=>g0 ?_
 have h50:sat g _ (Tab b n A E RL::_):=tab_close hM28.1 om (by first|rfl |omega) h48.e.e.e.e.t8
 exact enR _ [rd 0 0 0 0 6 h48] h50.d.a.t2
theorem tfind_ok(b n:Nat)(A:List Sl2)(E:Tm)(RL:List Rs)(x y z:Int)(e:Ety)(hz0:0≤z)(hz1:z≤4294967295)(ho:1≤x∧x≤3∧0≤y∧y≤255∧1≤z)(hg_:gget E y=some e)(hd_:e.d.1=x∧e.d.2.1=y∧e.d.2.2=z):HQ 283 [pV b,.agg #[iV x,iV y,uV z]] [Tab b n A E RL] (.tuple #[.agg #[iV e.d.1,iV e.d.2.1,uV e.d.2.2,iV e.num,iV e.h.1,uV e.h.2],iV 0]) [Tab b n A E RL]:=by
 refine hiS func283 ntmps283 fun g w0 R h0=>g0<|nP 39 [iV x,iV y,uV z] h0 (fun r10 _ h12=> ?_)
 refine nP 228 [iV 0,iV 0,uV 0,iV 0,iV 0,uV 0] h12 (fun r13 _ h15=> ?_)
 have h16:=h15.b.t4
 refine g0<|cl1 call119 (tvalid_ht b n A E RL) h16 fun _ h18=>go [rd 3 0 2 0 3 h18]<|cl0 call281 (cdesc_ok x y z om om om) h18 fun _ h20=>g0<|dw (fls [0,1,2,3,4,5] (Tr.an2 6 (fls [7,8,9] (Tr.an 10 (Tr.an 11 (Tr.fl 12 Tr.nil)))) 10 (Tr.an 6 (fls [7,8,9] (Tr.an 11 (Tr.fl 12 Tr.nil)))))) h20 fun _ h22=> ?_
 obtain⟨s23,m24,p25,c26,E27,hM28,h29⟩:=tab_open h22
 have hRl_:=hM28.2
 refine go [rd 5 3 0 1 1 h29,rd 5 5 5 1 1 h29] ?_
 refine br2 ?_ ?_
 ·
  refine actG ?_
  refine act_law (d:=25) (.tuple #[.agg #[iV e.d.1,iV e.d.2.1,uV e.d.2.2,iV e.num,iV e.h.1,uV e.h.2],.bool true]) kr rfl (law_lookupOk (t:=174) (z:= .agg #[iV 0,iV 0,uV 0,iV 0,iV 0,uV 0]) (m:=Ot 22) (x:=Ot 24) (kv:=kI) (ve:=vE) kr underlying174 kyI kr y kr kr (j:=2) h29 rfl (.agg #[iV e.d.1,iV e.d.2.1,uV e.d.2.2,iV e.num,iV e.h.1,uV e.h.2]) true (by rw[hM28.1.2.2 y,hg_];exact⟨rfl,rfl⟩)) ?_
  refine⟨kd [],nxG ?_⟩
  refine g0<|nG (fun q_=>pV q_) 228 [iV 0,iV 0,uV 0,iV 0,iV 0,uV 0] h29 (fun r30 _ h32=>⟨kd [],?_⟩)
  refine sB [iV e.d.1,iV e.d.2.1,uV e.d.2.2,iV e.num,iV e.h.1,uV e.h.2] h32 fun _ h34=>⟨kd [],?_⟩
  refine go [rd 6 4 0 0 3 h34,rd 6 5 6 0 3 h34,.s 6 6]<|lwP (.bool false) (seq39_neq_t (x:=Ot 32) (y:=Ot 33) e.d.1 e.d.2.1 e.d.2.2 x y z kr kr kr ⟨om,om,om⟩ _) ?_
  have h35:=h34.e.t8
  refine go [rd 8 0 0 0 6 h34]<|sA [iV e.d.1,iV e.d.2.1,uV e.d.2.2,iV e.num,iV e.h.1,uV e.h.2] h35 fun w36 h37=>g0 ?_
  have h39:sat g _ (Tab b n A E RL::_):=tab_close hM28.1 om (by first|rfl |omega) h37.e.e.e.e.t8
  exact enR _ [rd 0 0 0 0 6 h37] h39.d.a.t2
 refine nG (fun q_=>pV q_) 228 [iV 0,iV 0,uV 0,iV 0,iV 0,uV 0] h29 (fun r41 _ h43=>⟨kd [rd 0 5 6 1 1 h43,rd 0 3 1 1 1 h43],?_⟩)
 refine actG ?_
 refine act_law (d:=25) (.tuple #[.agg #[iV e.d.1,iV e.d.2.1,uV e.d.2.2,iV e.num,iV e.h.1,uV e.h.2],.bool true]) kr rfl (law_lookupOk (t:=174) (z:= .agg #[iV 0,iV 0,uV 0,iV 0,iV 0,uV 0]) (m:=Ot 22) (x:=Ot 24) (kv:=kI) (ve:=vE) kr underlying174 kyI kr y kr kr (j:=3) h43 rfl (.agg #[iV e.d.1,iV e.d.2.1,uV e.d.2.2,iV e.num,iV e.h.1,uV e.h.2]) true (by rw[hM28.1.2.2 y,hg_];exact⟨rfl,rfl⟩)) ?_
 refine⟨kd [],nxG ?_⟩
 refine g0<|sB [iV e.d.1,iV e.d.2.1,uV e.d.2.2,iV e.num,iV e.h.1,uV e.h.2] h43 fun _ h45=>⟨kd [],?_⟩
 refine go [rd 6 4 0 0 3 h45,rd 6 5 6 0 3 h45,.s 6 6]<|lwP (.bool false) (seq39_neq_t (x:=Ot 32) (y:=Ot 33) e.d.1 e.d.2.1 e.d.2.2 x y z kr kr kr ⟨om,om,om⟩ _) ?_
 have h46:=h45.e.t8
 refine go [rd 8 0 0 0 6 h45]<|sA [iV e.d.1,iV e.d.2.1,uV e.d.2.2,iV e.num,iV e.h.1,uV e.h.2] h46 fun w47 h48=>g0 ?_
 have h50:sat g _ (Tab b n A E RL::_):=tab_close hM28.1 om (by first|rfl |omega) h48.e.e.e.e.t8
 exact enR _ [rd 0 0 0 0 6 h48] h50.d.a.t2
theorem tfind_diff(b n:Nat)(A:List Sl2)(E:Tm)(RL:List Rs)(x y z:Int)(e:Ety)(hz0:0≤z)(hz1:z≤4294967295)(ho:1≤x∧x≤3∧0≤y∧y≤255∧1≤z)(hg_:gget E y=some e)(hd_: ¬(e.d.1=x∧e.d.2.1=y∧e.d.2.2=z)):HQ 283 [pV b,.agg #[iV x,iV y,uV z]] [Tab b n A E RL] (.tuple #[.agg #[iV 0,iV 0,uV 0,iV 0,iV 0,uV 0],iV 7]) [Tab b n A E RL]:=by
 refine hiS func283 ntmps283 fun g w0 R h0=>g0<|nP 39 [iV x,iV y,uV z] h0 (fun r10 _ h12=> ?_)
 refine nP 228 [iV 0,iV 0,uV 0,iV 0,iV 0,uV 0] h12 (fun r13 _ h15=> ?_)
 have h16:=h15.b.t4
 refine g0<|cl1 call119 (tvalid_ht b n A E RL) h16 fun _ h18=>go [rd 3 0 2 0 3 h18]<|cl0 call281 (cdesc_ok x y z om om om) h18 fun _ h20=>g0<|dw (fls [0,1,2,3,4,5] (Tr.an2 6 (fls [7,8,9] (Tr.an 10 (Tr.an 11 (Tr.fl 12 Tr.nil)))) 10 (Tr.an 6 (fls [7,8,9] (Tr.an 11 (Tr.fl 12 Tr.nil)))))) h20 fun _ h22=> ?_
 obtain⟨s23,m24,p25,c26,E27,hM28,h29⟩:=tab_open h22
 have hRl_:=hM28.2
 refine go [rd 5 3 0 1 1 h29,rd 5 5 5 1 1 h29] ?_
 refine br2 ?_ ?_
 ·
  refine actG ?_
  refine act_law (d:=25) (.tuple #[.agg #[iV e.d.1,iV e.d.2.1,uV e.d.2.2,iV e.num,iV e.h.1,uV e.h.2],.bool true]) kr rfl (law_lookupOk (t:=174) (z:= .agg #[iV 0,iV 0,uV 0,iV 0,iV 0,uV 0]) (m:=Ot 22) (x:=Ot 24) (kv:=kI) (ve:=vE) kr underlying174 kyI kr y kr kr (j:=2) h29 rfl (.agg #[iV e.d.1,iV e.d.2.1,uV e.d.2.2,iV e.num,iV e.h.1,uV e.h.2]) true (by rw[hM28.1.2.2 y,hg_];exact⟨rfl,rfl⟩)) ?_
  refine⟨kd [],nxG ?_⟩
  refine g0<|nG (fun q_=>pV q_) 228 [iV 0,iV 0,uV 0,iV 0,iV 0,uV 0] h29 (fun r30 _ h32=>⟨kd [],?_⟩)
  refine sB [iV e.d.1,iV e.d.2.1,uV e.d.2.2,iV e.num,iV e.h.1,uV e.h.2] h32 fun _ h34=>⟨kd [],?_⟩
  refine go [rd 6 4 0 0 3 h34,rd 6 5 6 0 3 h34,.s 6 6] ?_
  by_cases c35:e.d.1=x
  ·
   by_cases c36:e.d.2.1=y
   ·
    refine lwP (.bool true) (seq39_neq_f (x:=Ot 32) (y:=Ot 33) e.d.1 e.d.2.1 e.d.2.2 x y z kr kr kr om _) ?_
    have h37:=h34.e.t8
    refine g0<|sA [iV 0,iV 0,uV 0,iV 0,iV 0,uV 0] h37 fun w38 h39=>g0 ?_
    have h41:sat g _ (Tab b n A E RL::_):=tab_close hM28.1 om (by first|rfl |omega) h39.e.e.e.e.t8
    exact enR _ [rd 0 0 0 0 6 h39] h41.d.a.t2
   refine lwP (.bool true) (seq39_neq_f (x:=Ot 32) (y:=Ot 33) e.d.1 e.d.2.1 e.d.2.2 x y z kr kr kr om _) ?_
   have h43:=h34.e.t8
   refine g0<|sA [iV 0,iV 0,uV 0,iV 0,iV 0,uV 0] h43 fun w44 h45=>g0 ?_
   have h47:sat g _ (Tab b n A E RL::_):=tab_close hM28.1 om (by first|rfl |omega) h45.e.e.e.e.t8
   exact enR _ [rd 0 0 0 0 6 h45] h47.d.a.t2
  refine lwP (.bool true) (seq39_neq_f (x:=Ot 32) (y:=Ot 33) e.d.1 e.d.2.1 e.d.2.2 x y z kr kr kr om _) ?_
  have h49:=h34.e.t8
  refine g0<|sA [iV 0,iV 0,uV 0,iV 0,iV 0,uV 0] h49 fun w50 h51=>g0 ?_
  have h53:sat g _ (Tab b n A E RL::_):=tab_close hM28.1 om (by first|rfl |omega) h51.e.e.e.e.t8
  exact enR _ [rd 0 0 0 0 6 h51] h53.d.a.t2
 refine nG (fun q_=>pV q_) 228 [iV 0,iV 0,uV 0,iV 0,iV 0,uV 0] h29 (fun r55 _ h57=>⟨kd [rd 0 5 6 1 1 h57,rd 0 3 1 1 1 h57],?_⟩)
 refine actG ?_
 refine act_law (d:=25) (.tuple #[.agg #[iV e.d.1,iV e.d.2.1,uV e.d.2.2,iV e.num,iV e.h.1,uV e.h.2],.bool true]) kr rfl (law_lookupOk (t:=174) (z:= .agg #[iV 0,iV 0,uV 0,iV 0,iV 0,uV 0]) (m:=Ot 22) (x:=Ot 24) (kv:=kI) (ve:=vE) kr underlying174 kyI kr y kr kr (j:=3) h57 rfl (.agg #[iV e.d.1,iV e.d.2.1,uV e.d.2.2,iV e.num,iV e.h.1,uV e.h.2]) true (by rw[hM28.1.2.2 y,hg_];exact⟨rfl,rfl⟩)) ?_
 refine⟨kd [],nxG ?_⟩
 refine g0<|sB [iV e.d.1,iV e.d.2.1,uV e.d.2.2,iV e.num,iV e.h.1,uV e.h.2] h57 fun _ h59=>⟨kd [],?_⟩
 refine go [rd 6 4 0 0 3 h59,rd 6 5 6 0 3 h59,.s 6 6] ?_
 by_cases c60:e.d.1=x
 ·
  by_cases c61:e.d.2.1=y
  ·
   refine lwP (.bool true) (seq39_neq_f (x:=Ot 32) (y:=Ot 33) e.d.1 e.d.2.1 e.d.2.2 x y z kr kr kr om _) ?_
   have h62:=h59.e.t8
   refine g0<|sA [iV 0,iV 0,uV 0,iV 0,iV 0,uV 0] h62 fun w63 h64=>g0 ?_
   have h66:sat g _ (Tab b n A E RL::_):=tab_close hM28.1 om (by first|rfl |omega) h64.e.e.e.e.t8
   exact enR _ [rd 0 0 0 0 6 h64] h66.d.a.t2
  refine lwP (.bool true) (seq39_neq_f (x:=Ot 32) (y:=Ot 33) e.d.1 e.d.2.1 e.d.2.2 x y z kr kr kr om _) ?_
  have h68:=h59.e.t8
  refine g0<|sA [iV 0,iV 0,uV 0,iV 0,iV 0,uV 0] h68 fun w69 h70=>g0 ?_
  have h72:sat g _ (Tab b n A E RL::_):=tab_close hM28.1 om (by first|rfl |omega) h70.e.e.e.e.t8
  exact enR _ [rd 0 0 0 0 6 h70] h72.d.a.t2
 refine lwP (.bool true) (seq39_neq_f (x:=Ot 32) (y:=Ot 33) e.d.1 e.d.2.1 e.d.2.2 x y z kr kr kr om _) ?_
 have h74:=h59.e.t8
 refine g0<|sA [iV 0,iV 0,uV 0,iV 0,iV 0,uV 0] h74 fun w75 h76=>g0 ?_
 have h78:sat g _ (Tab b n A E RL::_):=tab_close hM28.1 om (by first|rfl |omega) h76.e.e.e.e.t8
 exact enR _ [rd 0 0 0 0 6 h76] h78.d.a.t2
theorem tlen_ht(b n:Nat)(A:List Sl2)(E:Tm)(RL:List Rs):HQ 54 [pV b] [Tab b n A E RL] (iV (RL.length:Int)) [Tab b n A E RL]:=by
 refine hiS func54 ntmps54 fun g w0 R h0=>g0<|cl1 call119 (tvalid_ht b n A E RL) h0 fun w10 h11=> ?_
 obtain⟨s12,m13,p14,c15,E16,hM17,h18⟩:=tab_open h11
 have hRl_:=hM17.2
 refine go [rd 3 3 0 2 1 h18] ?_
 have h19:sat g _ (Tab b n A E RL::_):=tab_close hM17.1 om (by first|rfl |omega) h18
 exact enR _ [] h19
theorem troom_ht(b n:Nat)(A:List Sl2)(E:Tm)(RL:List Rs):HQ 268 [pV b] [Tab b n A E RL] (iV (((inS 0 A 0).length:Nat):Int)) [Tab b n A E RL]:=by
 refine hiS func268 ntmps268 fun g w0 R h0=>g0<|cl1 call119 (tvalid_ht b n A E RL) h0 fun _ h11=> ?_
 obtain⟨s12,m13,p14,c15,E16,hM17,h18⟩:=tab_open h11
 have hRl_:=hM17.2
 have h19:=h18.a.t5
 refine go [rd 3 3 0 0 1 h18]<|cl1 call279 (sfree_ht s12 n A) h19 fun w20 h21=>g0 ?_
 have h23:sat g _ (Tab b n A E RL::_):=tab_close hM17.1 om (by first|rfl |omega) h21.a.t5
 exact enR _ [] h23
theorem tcheck_ok(b n:Nat)(A:List Sl2)(E:Tm)(RL:List Rs)(v:Int)(h:1≤v∧v≤(RL.length:Int)):HQ 284 [pV b,iV v] [Tab b n A E RL] (iV 0) [Tab b n A E RL]:=by
 refine hiS func284 ntmps284 fun g w0 R h0=>g0<|cl1 call119 (tvalid_ht b n A E RL) h0 fun w10 h11=> ?_
 obtain⟨s12,m13,p14,c15,E16,hM17,h18⟩:=tab_open h11
 have hRl_:=hM17.2
 refine go [.v 3 1 (oF (v<1)),rd 3 7 0 2 1 h18,.v 3 9 (oF (v>(RL.length:Int)))] ?_
 have h19:sat g _ (Tab b n A E RL::_):=tab_close hM17.1 om (by first|rfl |omega) h18
 exact enR _ [] h19
theorem tcheck_no(b n:Nat)(A:List Sl2)(E:Tm)(RL:List Rs)(v:Int)(h:v<1∨(RL.length:Int)<v):HQ 284 [pV b,iV v] [Tab b n A E RL] (iV 3) [Tab b n A E RL]:=by
 refine hiS func284 ntmps284 fun g w0 R h0=>g0<|cl1 call119 (tvalid_ht b n A E RL) h0 fun w10 h11=>go [.s 3 1] ?_
 by_cases c12:v<1
 ·
  refine go [.v 3 1 (oT _ c12)] ?_
  exact enR _ [] h11
 obtain⟨s13,m14,p15,c16,E17,hM18,h19⟩:=tab_open h11
 have hRl_:=hM18.2
 refine go [.v 3 1 (oF _ c12),rd 3 7 0 2 1 h19,.v 3 9 (oT (v>(RL.length:Int)))] ?_
 have h20:sat g _ (Tab b n A E RL::_):=tab_close hM18.1 om (by first|rfl |omega) h19
 exact enR _ [] h20
theorem take_j(b n:Nat)(A:List Sl2)(j:Nat)(gj:Int)(h:(inS 0 A 0)[0]? =some (j,gj)):HT prog 231 [pV b] [Tb b n A] (fun v K=>v=Value.tuple #[Value.agg #[Value.int .i64 (j:Int),Value.int .u32 gj],Value.int .i64 0]∧K= [Tb b n (A.set j (1,gj))]):=
 (take_ht b n A).mono fun v K hP=>by
  have hl:=(List.getElem?_eq_some_iff.1 h).1
  rw[(take_some hl).1,(take_some hl).2,getD_some h] at hP
  exact hP
theorem tget_no(b n:Nat)(A:List Sl2)(E:Tm)(RL:List Rs)(vn:Int)(h:vn<1∨(RL.length:Int)<vn):HQ 210 [pV b,iV vn] [Tab b n A E RL] (.tuple #[.agg #[iV 0,iV 0,uV 0,iV 0,iV 0,iV 0,iV 0,.string (St [])],iV 3]) [Tab b n A E RL]:=by
 refine hiS func210 ntmps210 fun g w0 R h0=>g0<|nP 226 [iV 0,iV 0,uV 0,iV 0,iV 0,iV 0,iV 0,.string (St [])] h0 (fun _ _ h12=> ?_)
 refine g0 ?_
 by_cases c13:1≤vn
 ·
  refine cl1 call284 (tcheck_no b n A E RL vn om) h12.a.t3 fun _ h16=> ?_
  have h17:=h16.a.t3
  refine g0<|sA [iV 0,iV 0,uV 0,iV 0,iV 0,iV 0,iV 0,.string (St [])] h17 fun _ h19=>g0 ?_
  exact enR _ [rd 0 0 0 0 8 h19] (tk2 (sf1 (sf2 h19.a.t3)))
 refine cl1 call284 (tcheck_no b n A E RL vn om) h12.a.t3 fun _ h24=> ?_
 have h25:=h24.a.t3
 refine g0<|sA [iV 0,iV 0,uV 0,iV 0,iV 0,iV 0,iV 0,.string (St [])] h25 fun _ h27=>g0 ?_
 exact enR _ [rd 0 0 0 0 8 h27] (tk2 (sf1 (sf2 h27.a.t3)))
theorem tget_ok(b n:Nat)(A:List Sl2)(E:Tm)(RL:List Rs)(vn:Int)(q:Nat)(r:Rs)(hr:RL[q]? =some r)(hv:vn=(q:Int)+1):HQ 210 [pV b,iV vn] [Tab b n A E RL] (.tuple #[.agg #[iV r.out.1,iV r.out.2.1,uV r.out.2.2,iV r.st,iV r.why,iV r.tr,iV r.nx,.string (St r.tag)],iV 0]) [Tab b n A E RL]:=by
 refine hiS func210 ntmps210 fun g w0 R h0=> ?_
 have hq_:=(List.getElem?_eq_some_iff.1 hr).1
 refine g0<|nP 226 [iV 0,iV 0,uV 0,iV 0,iV 0,iV 0,iV 0,.string (St [])] h0 (fun r10 _ h12=> ?_)
 have h13:=h12.a.t3
 refine g0<|cl1 call284 (tcheck_ok b n A E RL vn om) h13 fun _ h15=> ?_
 obtain⟨s16,m17,p18,c19,E20,hM21,h22⟩:=tab_open h15
 have hRl_:=hM21.2
 obtain⟨b23,hp24⟩:=sl_ptr0 (j:=3) h22 rfl om
 refine go [rd 4 3 0 2 1 h22,.v 4 5 (oIr (vn-1)),.s 4 6]<|lwP (.pointer (some ⟨b23,q*8,none⟩)) (liP (Ot 17) (Ot 19) p18 b23 0 (vn-1) RL.length c19 underlying175 8 q hp24 (q*8)) ?_
 have h25:=h22.c.t6
 have hl26:=fl_n eRs_ok dc h25
 have h27:=h25.d.t6
 refine go [.r 4 7 b23 (q*8) [iV r.out.1,iV r.out.2.1,uV r.out.2.2,iV r.st,iV r.why,iV r.tr,iV r.nx,.string (St r.tag)] ⟨gvc 0 h25 rfl hp24 eRs_ok 0 (iV r.out.1) hr (q*8),gvc 0 h25 rfl hp24 eRs_ok 1 (iV r.out.2.1) hr (q*8+1),gvc 0 h25 rfl hp24 eRs_ok 2 (uV r.out.2.2) hr (q*8+2),gvc 0 h25 rfl hp24 eRs_ok 3 (iV r.st) hr (q*8+3),gvc 0 h25 rfl hp24 eRs_ok 4 (iV r.why) hr (q*8+4),gvc 0 h25 rfl hp24 eRs_ok 5 (iV r.tr) hr (q*8+5),gvc 0 h25 rfl hp24 eRs_ok 6 (iV r.nx) hr (q*8+6),gvc 0 h25 rfl hp24 eRs_ok 7 (.string (St r.tag)) hr (q*8+7),trivial⟩]<|sA [iV r.out.1,iV r.out.2.1,uV r.out.2.2,iV r.st,iV r.why,iV r.tr,iV r.nx,.string (St r.tag)] h27 fun w28 h29=>g0 ?_
 have h31:sat g _ (Tab b n A E RL::_):=tab_close hM21.1 om (by first|rfl |omega) h29.a.d.d.d.t6
 exact enR _ [rd 0 0 0 0 8 h29] h31.B.t2
theorem tdrop_ht(b n:Nat)(A:List Sl2)(E:Tm)(RL:List Rs)(x y z:Int)(hz0:0≤z)(hz1:z≤4294967295)(q:Nat)(s:Sl2)(hs:A[q]? =some s)(hd_:y=(q:Int)∧s.1=1∧s.2=z):HQ 308 [pV b,.agg #[iV x,iV y,uV z]] [Tab b n A E RL] (.tuple #[]) [Tab b n (giveA A q z) (gdel E y) RL]:=by
 refine hiS func308 ntmps308 fun g w0 R h0=>g0<|nP 39 [iV x,iV y,uV z] h0 (fun r10 _ h12=> ?_)
 refine g0<|dw (fls [0,1,2,3,4,5] (Tr.an 6 Tr.nil)) h12 fun _ h14=> ?_
 obtain⟨s16,m17,p18,c19,E20,hM21,h22⟩:=tab_open h14.a.t3
 have hRl_:=hM21.2
 have h23:=h22.b.t6
 refine go [rd 1 3 0 1 1 h22,rd 1 5 4 1 1 h22] ?_
 refine actG ?_
 refine ag_delete (t:=174) (t2:=3) (d:=none) (m:=Ot 7) (x:=Ot 9) (kv:=kI) (ve:=vE) kr underlying174 kyI y kr kr h23 kr (gdel E20 y) rfl ?_
 intro w24 h25
 refine⟨_,rfl,?_⟩
 have h26:sat g _ (Gp kI vE m17 (gdel E20 y)::_):=h25
 refine⟨kd [],nxN ?_⟩
 refine g0<|dw (fls [0,1,2,3,4,5,6,7,8] (Tr.an 9 Tr.nil)) h26 fun _ h28=> ?_
 have h29:=h28.b.t6
 refine go [rd 2 3 1 0 1 h28,rd 2 5 4 1 1 h28,rd 2 7 4 2 1 h28]<|cw1 call382 (give_ht s16 n A q s hs y z om) h29 fun w30 h31=>⟨kd [],?_⟩
 refine g0 ?_
 have h33:sat g _ (Tab b n (giveA A q z) (gdel E y) RL::_):=tab_close (meq_del hM21.1 y) om (by first|rfl |omega) h31.b.t6
 exact enR _ [] h33.B.t2
theorem taddx_ok(p0:Option Addr)(k0 c0 b n:Nat)(A:List Sl2)(E:Tm)(RL:List Rs)(vn hx hy:Int)(q:Nat)(r:Rs)(hr:RL[q]? =some r)(hv:vn=(q:Int)+1)(j:Nat)(gj:Int)(hj:(inS 0 A 0)[0]? =some (j,gj)):HQ 280 [pV b,iV vn,.agg #[iV hx,uV hy]] [TabX b n A E RL p0 k0 c0] (.tuple #[.agg #[iV r.out.1,iV j,uV gj],iV 0]) [TabX b n (A.set j (1,gj)) (gset E (j:Int) ⟨(r.out.1,(j:Int),gj),vn,(hx,hy)⟩) RL p0 k0 c0]:=by
 have hfl_:=(List.getElem?_eq_some_iff.1 hj).1
 refine hiS func280 ntmps280 fun g w0 R h0=> ?_
 have hq_:=(List.getElem?_eq_some_iff.1 hr).1
 refine g0<|nP 203 [iV hx,uV hy] h0 (fun r10 _ h12=> ?_)
 refine nP 39 [iV 0,iV 0,uV 0] h12 (fun r13 _ h15=> ?_)
 obtain⟨s17,m18,E21,hM22,h23⟩:=tabx_open h15.b.t4
 have hRl_:=hM22.2
 have h24:=h23.c.t7
 have hl25:=fl_n eRs_ok dc h24
 have h26:=h24.c.c.c.t7
 have h27:=h26.a.t7
 refine go [rd 1 3 0 0 1 h26]<|cl1 call231 (take_j s17 n A j gj hj) h27 fun _ h29=>g0<|nP 203 [iV 0,uV 0] h29 (fun r30 _ h32=> ?_)
 refine sA [iV j,uV gj] h32 fun _ h34=>g0<|dw (fls [0,1,2,3,4,5,6,7,8,9,10,11,12,13,14] (Tr.an 15 (Tr.an 16 Tr.nil))) h34 fun _ h36=> ?_
 obtain⟨b37,hp38⟩:=sl_ptr0 (j:=4) h36 rfl om
 refine go [rd 4 3 2 2 1 h36,.v 4 5 (oIr (vn-1)),.s 4 6]<|lw (.pointer (some ⟨b37,q*8,none⟩)) (fun _=>liP (Ot 26) (Ot 28) p0 b37 0 (vn-1) k0 c0 underlying175 8 q hp38 (q*8))<|go [.r 4 9 b37 (q*8) [iV r.out.1] ⟨gvc 4 h36 rfl hp38 eRs_ok 0 (iV r.out.1) hr (q*8),trivial⟩,rd 4 11 0 0 1 h36,rd 4 13 0 1 1 h36]<|nG (fun q_=>pV q_) 39 [iV 0,iV 0,uV 0] h36 (fun r39 _ h41=>⟨kd [rd 0 13 1 1 1 h41,rd 0 11 1 0 1 h41,.r 0 9 b37 (q*8) [iV r.out.1] ⟨gvc 5 h41 rfl hp38 eRs_ok 0 (iV r.out.1) hr (q*8),trivial⟩,rd 0 3 3 2 1 h41],?_⟩)
 refine sB [iV r.out.1,iV j,uV gj] h41 fun _ h43=>⟨kd [],?_⟩
 refine g0<|dw (fls [0,1,2,3,4,5,6,7,8,9] (Tr.an 10 Tr.nil)) h43 fun _ h45=> ?_
 have h46:=h45.d.t9
 refine go [rd 5 3 3 1 1 h45,rd 5 5 1 0 1 h45,rd 5 6 0 0 3 h45,rd 5 8 7 0 2 h45] ?_
 refine actG ?_
 refine ag_mapUpdate (t:=174) (m:=Ot 41) (x:=Ot 43) (y:=Ot 47) (kv:=kI) (ve:=vE) kr kr underlying174 kyI (j:Int) (⟨(r.out.1,(j:Int),gj),vn,(hx,hy)⟩:Ety) kr kr kr h46 (gset E21 (j:Int) ⟨(r.out.1,(j:Int),gj),vn,(hx,hy)⟩) rfl ?_
 intro _ h48
 refine⟨kd [],nxN ?_⟩
 have h49:=h48.f.t9
 refine go [rd 6 0 1 0 3 h48]<|sA [iV r.out.1,iV j,uV gj] h49 fun w50 h51=>g0 ?_
 have h53:sat g _ (TabX b n (A.set j (1,gj)) (gset E (j:Int) ⟨(r.out.1,(j:Int),gj),vn,(hx,hy)⟩) RL p0 k0 c0::_):=tabx_close (meq_set hM22.1 (j:Int) ⟨(r.out.1,(j:Int),gj),vn,(hx,hy)⟩) om h51.f.b.e.f.t9
 exact enR (.tuple #[.agg #[iV r.out.1,iV j,uV gj],iV 0]) [rd 0 0 0 0 3 h51] h53.e.a.t2
theorem seq203_eql_t{n:Nat}{l:Fr}{o:Oper}{x y:Operand}(a0 a1 c0 c1:Int)(ho:o.op= .binOp .eql 203 x y 203)(hx:fe n l x= .agg #[iV a0,uV a1])(hy:fe n l y= .agg #[iV c0,uV c1])(h:a0=c0∧a1=c1)(w:World):(execOp (fe n l) o).run prog w= .ok (.value (.bool true)) w:=by
 obtain⟨rfl,rfl⟩:=h
 simp[execOp,ho,hx,hy,go_sem]
theorem seq203_eql_f{n:Nat}{l:Fr}{o:Oper}{x y:Operand}(a0 a1 c0 c1:Int)(ho:o.op= .binOp .eql 203 x y 203)(hx:fe n l x= .agg #[iV a0,uV a1])(hy:fe n l y= .agg #[iV c0,uV c1])(h: ¬(a0=c0∧a1=c1))(w:World):(execOp (fe n l) o).run prog w= .ok (.value (.bool false)) w:=by
 by_cases h0:a0=c0
 · skip
   by_cases h1:a1=c1
   · exact absurd ⟨h0,h1⟩ h
   · simp[execOp,ho,hx,hy,go_sem,h0,h1]
 · simp[execOp,ho,hx,hy,go_sem,h0]
theorem thas_ht(b n:Nat)(A:List Sl2)(E:Tm)(RL:List Rs)(hx hy:Int):HT prog 278 [pV b,.agg #[iV hx,uV hy]] [Tab b n A E RL] (fun v K=>(v= .bool true∧(∃e∈allE E,e.h=(hx,hy))∧K= [Tab b n A E RL])∨(v= .bool false∧(∀e∈allE E,e.h≠(hx,hy))∧K= [Tab b n A E RL])):=by
 refine hiS func278 ntmps278 fun g w0 R h0=>g0<|nP 203 [iV hx,uV hy] h0 (fun r10 _ h12=> ?_)
 refine nP 4 [.bool false] h12 (fun r13 _ h15=> ?_)
 refine g0<|cP call354 (tall1_ht b) h15 ?_
 rintro v K _ (⟨b16,rfl,rfl⟩) h18
 have h20:=(ap1 h18).a.b.t5
 refine g0 ?_
 refine rfS2 (N:=((allE E).length)) (fun i rb_=>([(5,pV rb_),(8,.agg #[iV (((allE E).getD i noE).d.1),iV (((allE E).getD i noE).d.2.1),uV (((allE E).getD i noE).d.2.2),iV (((allE E).getD i noE).num),iV (((allE E).getD i noE).h.1),uV (((allE E).getD i noE).h.2)])]:Fr)) (fun i rb_ K=>(∀j:Nat,j<i→((allE E).getD j noE).h≠(hx,hy))∧K= [Cl rb_ [iV (((allE E).getD i noE).d.1),iV (((allE E).getD i noE).d.2.1),uV (((allE E).getD i noE).d.2.2),iV (((allE E).getD i noE).num),iV (((allE E).getD i noE).h.1),uV (((allE E).getD i noE).h.2)] 228,Cl r10 [iV hx,uV hy] 203,Cl r13 [.bool false] 4]) (fun i K=>(∀j:Nat,j<i→((allE E).getD j noE).h≠(hx,hy))∧K= [Cl r10 [iV hx,uV hy] 203,Cl r13 [.bool false] 4]) (fun c i K=>(c=Code.ret∧(∃e∈allE E,e.h=(hx,hy))∧K= [Cl r10 [iV hx,uV hy] 203,Cl r13 [.bool true] 4,Tab b n A E RL])) call402 (tall_it b16 b n A E RL) ⟨(fun j h=>absurd h (Nat.not_lt_zero _)),rfl⟩ h20 ?_ ?_ ?_ ?_
 ·
  rintro i hi_ lp_ w21 K_ G ⟨hall_,rfl⟩ h22
  have h23:sat g _ (Cl r10 [iV hx,uV hy] 203::_):=h22
  refine g0<|nP 228 [iV 0,iV 0,uV 0,iV 0,iV 0,uV 0] h23 (fun r24 _ h26=> ?_)
  refine sA [iV (((allE E).getD i noE).d.1),iV (((allE E).getD i noE).d.2.1),uV (((allE E).getD i noE).d.2.2),iV (((allE E).getD i noE).num),iV (((allE E).getD i noE).h.1),uV (((allE E).getD i noE).h.2)] h26 fun _ h28=>g0 ?_
  exact enA r24 ⟨hall_,rfl⟩ h28
 ·
  rintro i hi31 lp_ w29 rb_ K_ G ⟨hall_,rfl⟩ h30
  have h32:sat g _ (Cl rb_ [iV (((allE E).getD i noE).d.1),iV (((allE E).getD i noE).d.2.1),uV (((allE E).getD i noE).d.2.2),iV (((allE E).getD i noE).num),iV (((allE E).getD i noE).h.1),uV (((allE E).getD i noE).h.2)] 228::_):=h30
  refine go [rd 3 1 0 4 2 h32,rd 3 2 1 0 2 h32,.s 3 3] ?_
  by_cases c33:((allE E).getD i noE).h.1=hx
  ·
   by_cases c34:((allE E).getD i noE).h.2=hy
   ·
    refine lwP (.bool true) (seq203_eql_t (x:=Ot 10) (y:=Ot 11) (((allE E).getD i noE).h.1) (((allE E).getD i noE).h.2) hx hy kr kr kr ⟨om,om⟩ _) ?_
    have h35:=h32.b.t6
    refine g0<|sA [.bool true] h35 fun _ h37=>g0 ?_
    exact rbR ⟨rfl,⟨_,getD_mem hi31,Prod.ext (show ((allE E).getD i noE).h.1=hx from by omega) (show ((allE E).getD i noE).h.2=hy from by omega)⟩,rfl⟩ (tk4 h37.e.e.b.d.t6)
   refine lwP (.bool false) (seq203_eql_f (x:=Ot 10) (y:=Ot 11) (((allE E).getD i noE).h.1) (((allE E).getD i noE).h.2) hx hy kr kr kr om _)<|g0 ?_
   exact rbN ⟨(upto_go hall_ (ne_pair om)),rfl⟩ (tk5 h32.e.e.e.e.e.t6)
  refine lwP (.bool false) (seq203_eql_f (x:=Ot 10) (y:=Ot 11) (((allE E).getD i noE).h.1) (((allE E).getD i noE).h.2) hx hy kr kr kr om _)<|g0 ?_
  exact rbN ⟨(upto_go hall_ (ne_pair om)),rfl⟩ (tk5 h32.e.e.e.e.e.t6)
 ·
  rintro D44 w45 K_ ⟨hall_,rfl⟩ h46
  have h47:sat g _ (pt D44 (Obj.deferred (some []))::_):=h46
  have h48:=h47.b.t6
  refine g0<|sA [.bool false] h48 fun _ h50=>g0 ?_
  refine enD (.bool false) h50.a.t6 (fun w53 h52=> [rd 0 0 1 0 1 h52]) (fun w53 h52=> ?_) [.bool false] [(⟨r13,0,none⟩,.bool false)]
  exact⟨_,[Tab b n A E RL],rfl,(.inr ⟨rfl,getD_all hall_,rfl⟩),(tk2 (sf1 (sf5 h52.d.t6)))⟩
 rintro D56 w57 ex_ i K_ hi59 (⟨rfl,hex_,rfl⟩) h58
 have h60:sat g _ (pt D56 (Obj.deferred (some []))::_):=h58
 refine g0 ?_
 refine enD (.bool true) h60 (fun w62 h61=> [rd 0 0 2 0 1 h61]) (fun w62 h61=> ?_) [.bool true] [(⟨r13,0,none⟩,.bool true)]
 exact⟨_,[Tab b n A E RL],rfl,(.inl ⟨rfl,hex_,rfl⟩),(tk2 (sf1 (sf4 h61.c.t5)))⟩
theorem tdescs_ok(b n:Nat)(A:List Sl2)(E:Tm)(RL:List Rs)(vn:Int)(h:1≤vn∧vn≤(RL.length:Int)):HT prog 307 [pV b,iV vn] [Tab b n A E RL] (fun v K=> ∃(p:Option Addr) (c:Nat),v= .tuple #[.slice p (descs E vn).length c,iV 0]∧K= [Tab b n A E RL,Sl 39 3 p ((descs E vn).length) c (fl eO (descs E vn))]):=by
 refine hiS func307 ntmps307 fun g w0 R h0=>g0<|nP 3 [iV vn] h0 (fun r10 _ h12=> ?_)
 have h13:=h12.a.t3
 refine go [rd 1 1 0 0 1 h12]<|cl1 call284 (tcheck_ok b n A E RL vn om) h13 fun _ h15=>g0<|nP 67 [.slice none 0 0] h15 (fun r16 _ h18=> ?_)
 refine g0<|cP call354 (tall1_ht b) h18 ?_
 rintro v K w20 (⟨b19,rfl,rfl⟩) h21
 have h22:=ap1 h21
 have hal_:(allE E).length≤256:=cntE_le E 256
 have h23:sat g _ (Sl 39 3 none 0 0 (fl eO [])::_):=sl_nil 39 3 h22
 have h24:=h23.b.d.t6
 refine g0 ?_
 refine rfS2 (N:=((allE E).length)) (fun i rb_=>([(8,pV rb_),(17,.agg #[iV (((allE E).getD i noE).d.1),iV (((allE E).getD i noE).d.2.1),uV (((allE E).getD i noE).d.2.2),iV (((allE E).getD i noE).num),iV (((allE E).getD i noE).h.1),uV (((allE E).getD i noE).h.2)])]:Fr)) (fun i rb_ K=> ∃p:Option Addr,∃k:Nat,∃c:Nat,(k≤i)∧K= [Cl rb_ [iV (((allE E).getD i noE).d.1),iV (((allE E).getD i noE).d.2.1),uV (((allE E).getD i noE).d.2.2),iV (((allE E).getD i noE).num),iV (((allE E).getD i noE).h.1),uV (((allE E).getD i noE).h.2)] 228,Cl r10 [iV vn] 3,Cl r16 [.slice p k c] 67,Sl 39 3 p k c (fl eO (descT E vn i))]) (fun i K=> ∃p:Option Addr,∃k:Nat,∃c:Nat,(k≤i)∧K= [Cl r10 [iV vn] 3,Cl r16 [.slice p k c] 67,Sl 39 3 p k c (fl eO (descT E vn i))]) (fun c _ K=>False) call402 (tall_it b19 b n A E RL) ⟨none,0,0,(Nat.le_refl _),rfl⟩ h24 ?_ ?_ ?_ ?_
 ·
  rintro i hi_ lp_ w25 K_ G ⟨p,k,c,hk_,rfl⟩ h26
  have h27:sat g _ (Cl r10 [iV vn] 3::_):=h26
  refine g0<|nP 228 [iV 0,iV 0,uV 0,iV 0,iV 0,uV 0] h27 (fun r28 _ h30=> ?_)
  refine sA [iV (((allE E).getD i noE).d.1),iV (((allE E).getD i noE).d.2.1),uV (((allE E).getD i noE).d.2.2),iV (((allE E).getD i noE).num),iV (((allE E).getD i noE).h.1),uV (((allE E).getD i noE).h.2)] h30 fun _ h32=>g0 ?_
  exact enA r28 ⟨p,k,c,hk_,rfl⟩ h32
 ·
  rintro i hi35 lp_ w33 rb_ K_ G ⟨p,k,c,hk_,rfl⟩ h34
  have h36:sat g _ (Cl rb_ [iV (((allE E).getD i noE).d.1),iV (((allE E).getD i noE).d.2.1),uV (((allE E).getD i noE).d.2.2),iV (((allE E).getD i noE).num),iV (((allE E).getD i noE).h.1),uV (((allE E).getD i noE).h.2)] 228::_):=h34
  refine go [rd 7 1 0 3 1 h36,rd 7 2 1 0 1 h36,.s 7 3] ?_
  by_cases c37:((allE E).getD i noE).num=vn
  ·
   refine go [.v 7 3 (qeT _ _ c37),rd 8 0 2 0 1 h36,rd 8 2 0 0 3 h36]<|nG (fun q_=> .slice (some ⟨q_,0,none⟩) 1 1) 39 [iV (((allE E).getD i noE).d.1),iV (((allE E).getD i noE).d.2.1),uV (((allE E).getD i noE).d.2.2)] h36 (fun r38 _ h40=>⟨kd [],?_⟩)
   have h41:=h40.d.t8
   refine actG ?_
   refine aA 26 3 (Ot 22) (Ot 25) (.agg #[iV 0,iV 0,uV 0]) p k c 1 1 (⟨r38,0,none⟩) 24 underlying67 h41 (fl eO [(((allE E).getD i noE).d.1,((allE E).getD i noE).d.2.1,((allE E).getD i noE).d.2.2)]) rfl (cell1 h41 rfl) (fl_one eO_ok _) (k+1) ?_
   intro p42 cap43 w44 h45
   have h46:sat g _ (Sl 39 3 p42 (k+1) cap43 (fl eO ((descT E vn i)++ [(((allE E).getD i noE).d.1,((allE E).getD i noE).d.2.1,((allE E).getD i noE).d.2.2)]))::_):=sJ h45
   obtain⟨hn47,hn48⟩:=sl_le h46
   refine nxA<|sA [.slice p42 (k+1) cap43] h46.d.t8 fun w50 h51=>g0 ?_
   have h53:sat g _ (Sl 39 3 p42 (k+1) cap43 (fl eO (descT E vn (i+1)))::_):=sat_imp h51.a.t8 (fun _ hh_=>by rw[show (((descT E vn i)++ [(((allE E).getD i noE).d.1,((allE E).getD i noE).d.2.1,((allE E).getD i noE).d.2.2)]):List Ky)=(descT E vn (i+1)) from descT_go hi35 om] at hh_;exact hh_)
   exact rbN ⟨p42,k+1,cap43,om,rfl⟩ (tk6 h53.x.x.x.c.d.x.t8)
  refine go [.v 7 3 (qeF _ _ c37)] ?_
  have h57:sat g _ (Sl 39 3 p k c (fl eO (descT E vn (i+1)))::_):=sat_imp h36.c.t7 (fun _ hh_=>by rw[show ((descT E vn i):List Ky)=(descT E vn (i+1)) from descT_no hi35 om] at hh_;exact hh_)
  exact rbN ⟨p,k,c,om,rfl⟩ (tk6 h57.f.f.f.c.f.f.t7)
 ·
  rintro D60 w61 K_ ⟨p,k,c,hk_,rfl⟩ h62
  have h63:sat g _ (pt D60 (Obj.deferred (some []))::_):=h62
  refine go [rd 9 0 2 0 1 h63] ?_
  have h65:sat g _ (Sl 39 3 p k c (fl eO (descs E vn))::_):=sat_imp h63.c.t7 (fun _ hh_=>by rw[show ((descT E vn ((allE E).length)):List Ky)=(descs E vn) from descT_all E vn] at hh_;exact hh_)
  have hl66:=fl_n eO_ok dc h65
  have h67:sat g _ (Sl 39 3 p ((descs E vn).length) c (fl eO (descs E vn))::_):=sat_imp h65 (fun _ hh_=>by rw[hl66];exact hh_)
  refine enD (.tuple #[.slice p k c,iV 0]) h67.a.t7 (fun _ _=> []) (fun _ h69=> ?_) [] []
  exact⟨_,_,rfl,⟨p,c,by rw[hl66],rfl⟩,(tk3 (sf2 (sf2 (sf6 h69.a.e.t7))))⟩
 intro _ _ _ _ _ _ hf_;exact hf_.elim
theorem thas_t(b n:Nat)(A:List Sl2)(E:Tm)(RL:List Rs)(hx hy:Int)(h: ∃e∈allE E,e.h=(hx,hy)):HT prog 278 [pV b,Value.agg #[iV hx,uV hy]] [Tab b n A E RL] (fun v K=>v=Value.bool true∧K= [Tab b n A E RL]):=
 (thas_ht b n A E RL hx hy).mono fun v K hP=>by
  rcases hP with ⟨hv,h1,hK⟩|⟨hv,h1,hK⟩
  · exact⟨hv,hK⟩
  · obtain⟨e,he,h2⟩:=h;exact absurd h2 (h1 e he)
theorem thas_f(b n:Nat)(A:List Sl2)(E:Tm)(RL:List Rs)(hx hy:Int)(h: ∀e∈allE E,e.h≠(hx,hy)):HT prog 278 [pV b,Value.agg #[iV hx,uV hy]] [Tab b n A E RL] (fun v K=>v=Value.bool false∧K= [Tab b n A E RL]):=
 (thas_ht b n A E RL hx hy).mono fun v K hP=>by
  rcases hP with ⟨hv,h1,hK⟩|⟨hv,h1,hK⟩
  · obtain⟨e,he,h1⟩:=h1;exact absurd h1 (h e he)
  · exact⟨hv,hK⟩
theorem ne_trip{p:Ky}{a b c:Int}(h: ¬(p.1=a∧p.2.1=b∧p.2.2=c)):p≠(a,b,c):=by
 rintro rfl
 exact h ⟨rfl,rfl,rfl⟩
theorem ridx_go{L:List Rs}{k:Nat}{P:Rs→Prop}{x:Rs}(h: ∀(j:Nat) (o:Rs),j<k→L[j]? =some o→P o)(hx:L[k]? =some x)(hp:P x): ∀(j:Nat) (o:Rs),j<k+1→L[j]? =some o→P o:=fun j o hj ho=>by
 rcases Nat.lt_succ_iff_lt_or_eq.1 hj with h1|rfl
 · exact h j o h1 ho
 · rw[hx] at ho
   obtain rfl:=Option.some.inj ho
   exact hp
theorem rall_idx{L:List Rs}{k:Nat}{P:Rs→Prop}(h: ∀(j:Nat) (o:Rs),j<k→L[j]? =some o→P o)(hk:L.length≤k): ∀o∈L,P o:=fun o ho=>by
 obtain⟨j,hj⟩:=List.getElem?_of_mem ho
 exact h j o (Nat.lt_of_lt_of_le (List.getElem?_eq_some_iff.1 hj).1 hk) hj
theorem seq48_eql_t{n:Nat}{l:Fr}{o:Oper}{x y:Operand}(a0 a1 a2 c0 c1 c2:Int)(ho:o.op= .binOp .eql 48 x y 48)(hx:fe n l x= .agg #[iV a0,iV a1,uV a2])(hy:fe n l y= .agg #[iV c0,iV c1,uV c2])(h:a0=c0∧a1=c1∧a2=c2)(w:World):(execOp (fe n l) o).run prog w= .ok (.value (.bool true)) w:=by
 obtain⟨rfl,rfl,rfl⟩:=h
 simp[execOp,ho,hx,hy,go_sem]
theorem seq48_eql_f{n:Nat}{l:Fr}{o:Oper}{x y:Operand}(a0 a1 a2 c0 c1 c2:Int)(ho:o.op= .binOp .eql 48 x y 48)(hx:fe n l x= .agg #[iV a0,iV a1,uV a2])(hy:fe n l y= .agg #[iV c0,iV c1,uV c2])(h: ¬(a0=c0∧a1=c1∧a2=c2))(w:World):(execOp (fe n l) o).run prog w= .ok (.value (.bool false)) w:=by
 by_cases h0:a0=c0
 · skip
   by_cases h1:a1=c1
   · skip
     by_cases h2:a2=c2
     · exact absurd ⟨h0,h1,h2⟩ h
     · simp[execOp,ho,hx,hy,go_sem,h0,h1,h2]
   · simp[execOp,ho,hx,hy,go_sem,h0,h1]
 · simp[execOp,ho,hx,hy,go_sem,h0]
theorem op1_t(b:Nat)(u1 u2 u3 s1 s2 s3 s4:Int)(tg:List UInt8)(x y z:Int)(h:u1=x∧u2=y∧u3=z):HQ 277 [.agg #[iV u1,iV u2,uV u3,iV s1,iV s2,iV s3,iV s4,.string (St tg)],pV b] [Cl b [iV x,iV y,uV z] 48] (.bool true) [Cl b [iV x,iV y,uV z] 48]:=by
 refine hiS func277 ntmps277 fun g w0 R h0=>g0<|nP 226 [iV u1,iV u2,uV u3,iV s1,iV s2,iV s3,iV s4,.string (St tg)] h0 (fun _ _ h12=> ?_)
 refine go [rd 1 1 0 0 3 h12,rd 1 2 1 0 3 h12,.s 1 3]<|lwP (.bool true) (seq48_eql_t (x:=Ot 5) (y:=Ot 6) u1 u2 u3 x y z kr kr kr ⟨om,om,om⟩ _)<|g0 ?_
 exact enR _ [] (tk2 (sf1 (sf2 h12.a.t3)))
theorem op1_f(b:Nat)(u1 u2 u3 s1 s2 s3 s4:Int)(tg:List UInt8)(x y z:Int)(h: ¬(u1=x∧u2=y∧u3=z)):HQ 277 [.agg #[iV u1,iV u2,uV u3,iV s1,iV s2,iV s3,iV s4,.string (St tg)],pV b] [Cl b [iV x,iV y,uV z] 48] (.bool false) [Cl b [iV x,iV y,uV z] 48]:=by
 refine hiS func277 ntmps277 fun g w0 R h0=>g0<|nP 226 [iV u1,iV u2,uV u3,iV s1,iV s2,iV s3,iV s4,.string (St tg)] h0 (fun _ _ h12=> ?_)
 refine go [rd 1 1 0 0 3 h12,rd 1 2 1 0 3 h12,.s 1 3] ?_
 by_cases c13:u1=x
 ·
  by_cases c14:u2=y
  ·
   refine lwP (.bool false) (seq48_eql_f (x:=Ot 5) (y:=Ot 6) u1 u2 u3 x y z kr kr kr om _)<|g0 ?_
   exact enR _ [] (tk2 (sf1 (sf2 h12.a.t3)))
  refine lwP (.bool false) (seq48_eql_f (x:=Ot 5) (y:=Ot 6) u1 u2 u3 x y z kr kr kr om _)<|g0 ?_
  exact enR _ [] (tk2 (sf1 (sf2 h12.a.t3)))
 refine lwP (.bool false) (seq48_eql_f (x:=Ot 5) (y:=Ot 6) u1 u2 u3 x y z kr kr kr om _)<|g0 ?_
 exact enR _ [] (tk2 (sf1 (sf2 h12.a.t3)))
theorem r_index(p:Option Addr)(m c b:Nat)(L:List Rs)(x y z:Int)(hm:m≤1000000):HT prog 353 [.slice p m c,.func (Fn.func 277) #[] #[pV b]] [Sl 226 8 p m c (fl eRs L),Cl b [iV x,iV y,uV z] 48] (fun v K=>(∃k:Nat,v=iV k∧(∃r∈L,r.out=(x,y,z))∧K= [Sl 226 8 p m c (fl eRs L),Cl b [iV x,iV y,uV z] 48])∨(v=iV (-1)∧(∀r∈L,r.out≠(x,y,z))∧K= [Sl 226 8 p m c (fl eRs L),Cl b [iV x,iV y,uV z] 48])):=by
 refine hiS func353 ntmps353 fun g w0 R h0=>g0 ?_
 have hl10:=fl_n eRs_ok dc h0
 refine lpS (fun mz_ a w=> ∃k:Nat,∃lr:Fr,mz_=m-k∧(k≤m)∧(∀(j:Nat) (o:Rs),j<k→L[j]? =some o→o.out≠(x,y,z))∧a=mk 19 (([(0,.slice p m c),(1,.func (Fn.func 277) #[] #[pV b]),(7,iV m),(8,iV k)]:Fr)++lr)∧sat g w [Sl 226 8 p m c (fl eRs L),Cl b [iV x,iV y,uV z] 48,R]) (m-0) ⟨0,_,rfl,(Nat.zero_le _),(fun j o h _=>absurd h (Nat.not_lt_zero _)),(lvF [.k 0 (.slice p m c),.k 1 (.func (Fn.func 277) #[] #[pV b]),.k 7 (iV m),.o 8 (oJ .i64 0 (0:Int))]),h0⟩ ?_
 rintro m12 a13 w14 ⟨k,lr11,rfl,hk,hall_,rfl,h15⟩
 refine ga<|go [.s 2 0] ?_
 by_cases c16:(k:Int)<(m:Int)
 ·
  obtain⟨b17,hp18⟩:=sl_ptr0 (j:=0) h15 rfl om
  refine go [.v 2 0 (oT _ c16),.s 4 3]<|lwP (.pointer (some ⟨b17,k*8,none⟩)) (liP (Ot 12) (Ot 13) p b17 0 (k:Int) m c underlying175 8 k hp18 (k*8)) ?_
  obtain⟨x19,hx20⟩: ∃x,L[k]? =some x:=⟨_,List.getElem?_eq_getElem (by rw[hl10];omega)⟩
  refine go [.r 4 4 b17 (k*8) [iV x19.out.1,iV x19.out.2.1,uV x19.out.2.2,iV x19.st,iV x19.why,iV x19.tr,iV x19.nx,.string (St x19.tag)] ⟨gvc 0 h15 rfl hp18 eRs_ok 0 (iV x19.out.1) hx20 (k*8),gvc 0 h15 rfl hp18 eRs_ok 1 (iV x19.out.2.1) hx20 (k*8+1),gvc 0 h15 rfl hp18 eRs_ok 2 (uV x19.out.2.2) hx20 (k*8+2),gvc 0 h15 rfl hp18 eRs_ok 3 (iV x19.st) hx20 (k*8+3),gvc 0 h15 rfl hp18 eRs_ok 4 (iV x19.why) hx20 (k*8+4),gvc 0 h15 rfl hp18 eRs_ok 5 (iV x19.tr) hx20 (k*8+5),gvc 0 h15 rfl hp18 eRs_ok 6 (iV x19.nx) hx20 (k*8+6),gvc 0 h15 rfl hp18 eRs_ok 7 (.string (St x19.tag)) hx20 (k*8+7),trivial⟩] ?_
  by_cases c21:x19.out.1=x
  ·
   by_cases c22:x19.out.2.1=y
   ·
    by_cases c23:x19.out.2.2=z
    ·
     refine cl1 call277 (op1_t b x19.out.1 x19.out.2.1 x19.out.2.2 x19.st x19.why x19.tr x19.nx x19.tag x y z om) h15.a.t3 fun _ h26=>g0<|up<|g0 ?_
     exact en (iV k) [] ⟨_,[Sl 226 8 p m c (fl eRs L),Cl b [iV x,iV y,uV z] 48],rfl,(.inl ⟨k,rfl,⟨x19,List.mem_of_getElem? hx20,Prod.ext (show x19.out.1=x from by omega) (Prod.ext (show x19.out.2.1=y from by omega) (show x19.out.2.2=z from by omega))⟩,rfl⟩),h26.a.t3⟩
    refine cl1 call277 (op1_f b x19.out.1 x19.out.2.1 x19.out.2.2 x19.st x19.why x19.tr x19.nx x19.tag x y z om) h15.a.t3 fun _ h30=>go [.v 6 0 (oIr ((k:Int)+1))] ?_
    refine enL ?_
    have h31:=h30.a.t3
    change ∃n',n'<_∧_
    refine⟨(m-(k+1)),by omega,(k+1),_,rfl,om,(ridx_go hall_ hx20 (ne_trip om)),(lvF [.k 0 (.slice p m c),.k 1 (.func (Fn.func 277) #[] #[pV b]),.k 7 (iV m),.o 8 (oJ .i64 ((k:Int)+1) (((k+1):Nat):Int))]),h31⟩
   refine cl1 call277 (op1_f b x19.out.1 x19.out.2.1 x19.out.2.2 x19.st x19.why x19.tr x19.nx x19.tag x y z om) h15.a.t3 fun _ h34=>go [.v 6 0 (oIr ((k:Int)+1))] ?_
   refine enL ?_
   have h35:=h34.a.t3
   change ∃n',n'<_∧_
   refine⟨(m-(k+1)),by omega,(k+1),_,rfl,om,(ridx_go hall_ hx20 (ne_trip om)),(lvF [.k 0 (.slice p m c),.k 1 (.func (Fn.func 277) #[] #[pV b]),.k 7 (iV m),.o 8 (oJ .i64 ((k:Int)+1) (((k+1):Nat):Int))]),h35⟩
  refine cl1 call277 (op1_f b x19.out.1 x19.out.2.1 x19.out.2.2 x19.st x19.why x19.tr x19.nx x19.tag x y z om) h15.a.t3 fun _ h38=>go [.v 6 0 (oIr ((k:Int)+1))] ?_
  refine enL ?_
  have h39:=h38.a.t3
  change ∃n',n'<_∧_
  refine⟨(m-(k+1)),by omega,(k+1),_,rfl,om,(ridx_go hall_ hx20 (ne_trip om)),(lvF [.k 0 (.slice p m c),.k 1 (.func (Fn.func 277) #[] #[pV b]),.k 7 (iV m),.o 8 (oJ .i64 ((k:Int)+1) (((k+1):Nat):Int))]),h39⟩
 refine go [.v 2 0 (oF _ c16)]<|up<|g0 ?_
 exact en (iV (-1)) [] ⟨_,[Sl 226 8 p m c (fl eRs L),Cl b [iV x,iV y,uV z] 48],rfl,(.inr ⟨rfl,rall_idx (k:=k) hall_ om,rfl⟩),h15⟩
theorem r_has(p:Option Addr)(m c b:Nat)(L:List Rs)(x y z:Int)(hm:m≤1000000):HT prog 276 [.slice p m c,.func (Fn.func 277) #[] #[pV b]] [Sl 226 8 p m c (fl eRs L),Cl b [iV x,iV y,uV z] 48] (fun v K=>(v= .bool true∧(∃r∈L,r.out=(x,y,z))∧K= [Sl 226 8 p m c (fl eRs L),Cl b [iV x,iV y,uV z] 48])∨(v= .bool false∧(∀r∈L,r.out≠(x,y,z))∧K= [Sl 226 8 p m c (fl eRs L),Cl b [iV x,iV y,uV z] 48])):=by
 refine hiS func276 ntmps276 fun g w0 R h0=>g0<|cP call353 (r_index p m c b L x y z om) h0 ?_
 rintro v K _ (⟨k10,rfl,hf11,rfl⟩|⟨rfl,hf11,rfl⟩) h13
 ·
  have h14:=ap2 h13
  refine go [.v 1 3 (oT ((k10:Int)≥0))] ?_
  exact en (.bool true) [] ⟨_,[Sl 226 8 p m c (fl eRs L),Cl b [iV x,iV y,uV z] 48],rfl,(.inl ⟨rfl,hf11,rfl⟩),h14⟩
 have h15:=ap2 h13
 refine g0 ?_
 exact en (.bool false) [] ⟨_,[Sl 226 8 p m c (fl eRs L),Cl b [iV x,iV y,uV z] 48],rfl,(.inr ⟨rfl,hf11,rfl⟩),h15⟩
theorem rhas_t(p:Option Addr)(m c b:Nat)(L:List Rs)(x y z:Int)(h: ∃r∈L,r.out=(x,y,z))(hm:m≤1000000):HT prog 276 [Value.slice p m c,Value.func (Fn.func 277) #[] #[pV b]] [Sl 226 8 p m c (fl eRs L),Cl b [iV x,iV y,uV z] 48] (fun v K=>v=Value.bool true∧K= [Sl 226 8 p m c (fl eRs L),Cl b [iV x,iV y,uV z] 48]):=
 (r_has p m c b L x y z hm).mono fun v K hP=>by
  rcases hP with ⟨hv,h1,hK⟩|⟨hv,h1,hK⟩
  · exact⟨hv,hK⟩
  · obtain⟨e,he,h2⟩:=h;exact absurd h2 (h1 e he)
theorem rhas_f(p:Option Addr)(m c b:Nat)(L:List Rs)(x y z:Int)(h: ∀r∈L,r.out≠(x,y,z))(hm:m≤1000000):HT prog 276 [Value.slice p m c,Value.func (Fn.func 277) #[] #[pV b]] [Sl 226 8 p m c (fl eRs L),Cl b [iV x,iV y,uV z] 48] (fun v K=>v=Value.bool false∧K= [Sl 226 8 p m c (fl eRs L),Cl b [iV x,iV y,uV z] 48]):=
 (r_has p m c b L x y z hm).mono fun v K hP=>by
  rcases hP with ⟨hv,h1,hK⟩|⟨hv,h1,hK⟩
  · obtain⟨e,he,h1⟩:=h1;exact absurd h1 (h e he)
  · exact⟨hv,hK⟩
theorem tnum_bad(b n:Nat)(A:List Sl2)(E:Tm)(RL:List Rs)(x y z:Int)(hz0:0≤z)(hz1:z≤4294967295)(ho: ¬(1≤x∧x≤3∧0≤y∧y≤255∧1≤z)):HQ 282 [pV b,.agg #[iV x,iV y,uV z]] [Tab b n A E RL] (.tuple #[iV 0,iV 2]) [Tab b n A E RL]:=by
 refine hiS func282 ntmps282 fun g w0 R h0=>g0<|nP 39 [iV x,iV y,uV z] h0 (fun _ _ h12=> ?_)
 have h13:=h12.a.t3
 refine go [rd 1 1 0 0 3 h12]<|cl1 call283 (tfind_bad b n A E RL x y z om om om) h13 fun _ h15=>g0<|nP 228 [iV 0,iV 0,uV 0,iV 0,iV 0,uV 0] h15 (fun _ _ h18=> ?_)
 refine sA [iV 0,iV 0,uV 0,iV 0,iV 0,uV 0] h18 fun _ h20=>go [rd 2 1 0 3 1 h20] ?_
 exact enR _ [] (tk2 (sf1 (sf3 h20.a.t4)))
theorem tnum_none(b n:Nat)(A:List Sl2)(E:Tm)(RL:List Rs)(x y z:Int)(hz0:0≤z)(hz1:z≤4294967295)(ho:1≤x∧x≤3∧0≤y∧y≤255∧1≤z)(hg_:gget E y=none):HQ 282 [pV b,.agg #[iV x,iV y,uV z]] [Tab b n A E RL] (.tuple #[iV 0,iV 7]) [Tab b n A E RL]:=by
 refine hiS func282 ntmps282 fun g w0 R h0=>g0<|nP 39 [iV x,iV y,uV z] h0 (fun _ _ h12=> ?_)
 have h13:=h12.a.t3
 refine go [rd 1 1 0 0 3 h12]<|cl1 call283 (tfind_none b n A E RL x y z om om om hg_) h13 fun _ h15=>g0<|nP 228 [iV 0,iV 0,uV 0,iV 0,iV 0,uV 0] h15 (fun _ _ h18=> ?_)
 refine sA [iV 0,iV 0,uV 0,iV 0,iV 0,uV 0] h18 fun _ h20=>go [rd 2 1 0 3 1 h20] ?_
 exact enR _ [] (tk2 (sf1 (sf3 h20.a.t4)))
theorem tnum_ok(b n:Nat)(A:List Sl2)(E:Tm)(RL:List Rs)(x y z:Int)(e:Ety)(hz0:0≤z)(hz1:z≤4294967295)(ho:1≤x∧x≤3∧0≤y∧y≤255∧1≤z)(hg_:gget E y=some e)(hd_:e.d.1=x∧e.d.2.1=y∧e.d.2.2=z):HQ 282 [pV b,.agg #[iV x,iV y,uV z]] [Tab b n A E RL] (.tuple #[iV e.num,iV 0]) [Tab b n A E RL]:=by
 refine hiS func282 ntmps282 fun g w0 R h0=>g0<|nP 39 [iV x,iV y,uV z] h0 (fun _ _ h12=> ?_)
 have h13:=h12.a.t3
 refine go [rd 1 1 0 0 3 h12]<|cl1 call283 (tfind_ok b n A E RL x y z e om om om hg_ om) h13 fun _ h15=>g0<|nP 228 [iV 0,iV 0,uV 0,iV 0,iV 0,uV 0] h15 (fun _ _ h18=> ?_)
 refine sA [iV e.d.1,iV e.d.2.1,uV e.d.2.2,iV e.num,iV e.h.1,uV e.h.2] h18 fun _ h20=>go [rd 2 1 0 3 1 h20] ?_
 exact enR _ [] (tk2 (sf1 (sf3 h20.a.t4)))
theorem tnum_diff(b n:Nat)(A:List Sl2)(E:Tm)(RL:List Rs)(x y z:Int)(e:Ety)(hz0:0≤z)(hz1:z≤4294967295)(ho:1≤x∧x≤3∧0≤y∧y≤255∧1≤z)(hg_:gget E y=some e)(hd_: ¬(e.d.1=x∧e.d.2.1=y∧e.d.2.2=z)):HQ 282 [pV b,.agg #[iV x,iV y,uV z]] [Tab b n A E RL] (.tuple #[iV 0,iV 7]) [Tab b n A E RL]:=by
 refine hiS func282 ntmps282 fun g w0 R h0=>g0<|nP 39 [iV x,iV y,uV z] h0 (fun _ _ h12=> ?_)
 have h13:=h12.a.t3
 refine go [rd 1 1 0 0 3 h12]<|cl1 call283 (tfind_diff b n A E RL x y z e om om om hg_ om) h13 fun _ h15=>g0<|nP 228 [iV 0,iV 0,uV 0,iV 0,iV 0,uV 0] h15 (fun _ _ h18=> ?_)
 refine sA [iV 0,iV 0,uV 0,iV 0,iV 0,uV 0] h18 fun _ h20=>go [rd 2 1 0 3 1 h20] ?_
 exact enR _ [] (tk2 (sf1 (sf3 h20.a.t4)))
theorem tnew_ok(n:Nat)(gn:Int)(hn:1≤n∧n≤256)(hgn:1≤gn∧gn≤4294967295):HT prog 31 [iV n,uV gn] [] (fun v K=> ∃b:Nat,v= .tuple #[pV b,iV 0]∧K= [Tab b n (List.replicate n (0,gn)) [] []]):=by
 refine hiS func31 ntmps31 fun g w0 R h0=>g0<|cP call67 (snew_ok n om gn om) h0 ?_
 rintro v K _ (⟨b10,rfl,rfl⟩) h12
 have h13:=ap1 h12
 refine g0 ?_
 refine actG ?_
 refine ag_makeMap (t:=174) (d:=18) kI vE kr kr rfl h13 ?_
 intro r14 _ h16
 refine nxA<|g0<|nP 177 [pV b10,.map (some r14),.slice none 0 0] h16 (fun r17 w18 h19=> ?_)
 refine g0 ?_
 have h20:sat g _ (Sl 226 8 none 0 0 (fl eRs [])::_):=sl_nil 226 8 h19
 have h22:sat g _ (Tab r17 n (List.replicate n (0,gn)) [] []::_):=tab_close (meq_refl List.nodup_nil) dc (by first|rfl |omega) h20.b.c.c.t5
 exact en (.tuple #[pV r17,iV 0]) [] ⟨_,_,rfl,⟨r17,rfl,rfl⟩,h22⟩
theorem tclose_bad(b n:Nat)(A:List Sl2)(E:Tm)(RL:List Rs)(x y z:Int)(hz0:0≤z)(hz1:z≤4294967295)(ho: ¬(1≤x∧x≤3∧0≤y∧y≤255∧1≤z)):HQ 288 [pV b,.agg #[iV x,iV y,uV z]] [Tab b n A E RL] (.tuple #[iV 0,.bool false,iV 2]) [Tab b n A E RL]:=by
 refine hiS func288 ntmps288 fun g w0 R h0=>g0<|nP 39 [iV x,iV y,uV z] h0 (fun _ _ h12=> ?_)
 have h13:=h12.a.t3
 refine go [rd 1 1 0 0 3 h12]<|cl1 call283 (tfind_bad b n A E RL x y z om om om) h13 fun _ h15=>g0<|nP 228 [iV 0,iV 0,uV 0,iV 0,iV 0,uV 0] h15 (fun _ _ h18=> ?_)
 refine sA [iV 0,iV 0,uV 0,iV 0,iV 0,uV 0] h18 fun _ h20=>g0 ?_
 exact enR _ [] (tk2 (sf1 (sf3 h20.a.t4)))
theorem tclose_none(b n:Nat)(A:List Sl2)(E:Tm)(RL:List Rs)(x y z:Int)(hz0:0≤z)(hz1:z≤4294967295)(ho:1≤x∧x≤3∧0≤y∧y≤255∧1≤z)(hg_:gget E y=none):HQ 288 [pV b,.agg #[iV x,iV y,uV z]] [Tab b n A E RL] (.tuple #[iV 0,.bool false,iV 7]) [Tab b n A E RL]:=by
 refine hiS func288 ntmps288 fun g w0 R h0=>g0<|nP 39 [iV x,iV y,uV z] h0 (fun _ _ h12=> ?_)
 have h13:=h12.a.t3
 refine go [rd 1 1 0 0 3 h12]<|cl1 call283 (tfind_none b n A E RL x y z om om om hg_) h13 fun _ h15=>g0<|nP 228 [iV 0,iV 0,uV 0,iV 0,iV 0,uV 0] h15 (fun _ _ h18=> ?_)
 refine sA [iV 0,iV 0,uV 0,iV 0,iV 0,uV 0] h18 fun _ h20=>g0 ?_
 exact enR _ [] (tk2 (sf1 (sf3 h20.a.t4)))
theorem tclose_diff(b n:Nat)(A:List Sl2)(E:Tm)(RL:List Rs)(x y z:Int)(e:Ety)(hz0:0≤z)(hz1:z≤4294967295)(ho:1≤x∧x≤3∧0≤y∧y≤255∧1≤z)(hg_:gget E y=some e)(hd_: ¬(e.d.1=x∧e.d.2.1=y∧e.d.2.2=z)):HQ 288 [pV b,.agg #[iV x,iV y,uV z]] [Tab b n A E RL] (.tuple #[iV 0,.bool false,iV 7]) [Tab b n A E RL]:=by
 refine hiS func288 ntmps288 fun g w0 R h0=>g0<|nP 39 [iV x,iV y,uV z] h0 (fun _ _ h12=> ?_)
 have h13:=h12.a.t3
 refine go [rd 1 1 0 0 3 h12]<|cl1 call283 (tfind_diff b n A E RL x y z e om om om hg_ om) h13 fun _ h15=>g0<|nP 228 [iV 0,iV 0,uV 0,iV 0,iV 0,uV 0] h15 (fun _ _ h18=> ?_)
 refine sA [iV 0,iV 0,uV 0,iV 0,iV 0,uV 0] h18 fun _ h20=>g0 ?_
 exact enR _ [] (tk2 (sf1 (sf3 h20.a.t4)))
theorem tclose_ok(b n:Nat)(A:List Sl2)(E:Tm)(RL:List Rs)(x y z:Int)(e:Ety)(hz0:0≤z)(hz1:z≤4294967295)(ho:1≤x∧x≤3∧0≤y∧y≤255∧1≤z)(hg_:gget E y=some e)(hd_:e.d.1=x∧e.d.2.1=y∧e.d.2.2=z)(q:Nat)(s:Sl2)(hs:A[q]? =some s)(hs_:y=(q:Int)∧s.1=1∧s.2=z)(hnum:1≤e.num∧e.num≤(RL.length:Int)):HQ 288 [pV b,.agg #[iV x,iV y,uV z]] [Tab b n A E RL] (.tuple #[iV e.num,.bool (decide ((descs (gdel E y) e.num).length=0)),iV 0]) [Tab b n (giveA A q z) (gdel E y) RL]:=by
 refine hiS func288 ntmps288 fun g w0 R h0=>g0<|nP 39 [iV x,iV y,uV z] h0 (fun _ _ h12=> ?_)
 have h13:=h12.a.t3
 refine go [rd 1 1 0 0 3 h12]<|cl1 call283 (tfind_ok b n A E RL x y z e om om om hg_ om) h13 fun _ h15=>g0<|nP 228 [iV 0,iV 0,uV 0,iV 0,iV 0,uV 0] h15 (fun _ _ h18=> ?_)
 refine sA [iV e.d.1,iV e.d.2.1,uV e.d.2.2,iV e.num,iV e.h.1,uV e.h.2] h18 fun _ h20=> ?_
 have h21:=h20.a.t4
 refine go [rd 4 1 2 0 3 h20]<|cl1 call308 (tdrop_ht b n A E RL x y z om om q s hs om) h21 fun _ h23=>go [rd 5 2 1 3 1 h23]<|cP call307 (tdescs_ok b n (giveA A q z) (gdel E y) RL e.num om) h23 ?_
 rintro v K _ (⟨p24,c25,rfl,rfl⟩) h27
 have h28:=ap2 h27
 refine go [rd 6 1 2 3 1 h28,.s 6 4] ?_
 by_cases c29:(((descs (gdel E y) e.num).length:Nat):Int)=0
 ·
  refine go [.v 6 4 (qeT _ _ c29)] ?_
  exact en (.tuple #[iV e.num,.bool true,iV 0]) [] ⟨_,_,rfl,⟨by rw[decide_eq_true om],rfl⟩,h28.d.a.t2⟩
 refine go [.v 6 4 (qeF _ _ c29)] ?_
 exact en (.tuple #[iV e.num,.bool false,iV 0]) [] ⟨_,_,rfl,⟨by rw[decide_eq_false om],rfl⟩,h28.d.a.t2⟩
theorem topen_tag(b n:Nat)(A:List Sl2)(E:Tm)(RL:List Rs)(x y z hx hy:Int)(L:List UInt8)(hz0:0≤z)(hz1:z≤4294967295)(hm:L.length≤1099511627776)(ho:1≤x∧x≤3∧0≤y∧y≤63∧1≤z)(ht: ¬tagE L=0):HQ 206 [pV b,.agg #[iV x,iV y,uV z],.string (St L),.agg #[iV hx,uV hy]] [Tab b n A E RL] (.tuple #[.agg #[iV 0,iV 0,uV 0],iV 16]) [Tab b n A E RL]:=by
 refine hiS func206 ntmps206 fun g w0 R h0=>g0<|nP 48 [iV x,iV y,uV z] h0 (fun _ _ h12=> ?_)
 refine nP 203 [iV hx,uV hy] h12 (fun _ _ h15=> ?_)
 refine nP 39 [iV 0,iV 0,uV 0] h15 (fun _ _ h18=> ?_)
 have h19:=h18.c.t5
 refine g0<|cl1 call119 (tvalid_ht b n A E RL) h19 fun _ h21=>go [rd 3 0 3 0 3 h21]<|cl0 call274 (rnew_tag x y z L om om om om om) h21 fun _ h23=>g0<|nP 226 [iV 0,iV 0,uV 0,iV 0,iV 0,iV 0,iV 0,.string (St [])] h23 (fun _ _ h26=> ?_)
 refine sA [iV 0,iV 0,uV 0,iV 0,iV 0,iV 0,iV 0,.string (St [])] h26 fun _ h28=> ?_
 have h29:=h28.b.t6
 refine g0<|sA [iV 0,iV 0,uV 0] h29 fun _ h31=>g0 ?_
 exact enR _ [rd 0 0 0 0 3 h31] (tk2 (sf1 (sf5 h31.b.t6)))
theorem topen_out(b n:Nat)(A:List Sl2)(E:Tm)(RL:List Rs)(x y z hx hy:Int)(L:List UInt8)(hz0:0≤z)(hz1:z≤4294967295)(hm:L.length≤1099511627776)(ho: ¬(1≤x∧x≤3∧0≤y∧y≤63∧1≤z)):HQ 206 [pV b,.agg #[iV x,iV y,uV z],.string (St L),.agg #[iV hx,uV hy]] [Tab b n A E RL] (.tuple #[.agg #[iV 0,iV 0,uV 0],iV 2]) [Tab b n A E RL]:=by
 refine hiS func206 ntmps206 fun g w0 R h0=>g0<|nP 48 [iV x,iV y,uV z] h0 (fun _ _ h12=> ?_)
 refine nP 203 [iV hx,uV hy] h12 (fun _ _ h15=> ?_)
 refine nP 39 [iV 0,iV 0,uV 0] h15 (fun _ _ h18=> ?_)
 have h19:=h18.c.t5
 refine g0<|cl1 call119 (tvalid_ht b n A E RL) h19 fun _ h21=>go [rd 3 0 3 0 3 h21]<|cl0 call274 (rnew_no x y z L om om om om) h21 fun _ h23=>g0<|nP 226 [iV 0,iV 0,uV 0,iV 0,iV 0,iV 0,iV 0,.string (St [])] h23 (fun _ _ h26=> ?_)
 refine sA [iV 0,iV 0,uV 0,iV 0,iV 0,iV 0,iV 0,.string (St [])] h26 fun _ h28=> ?_
 have h29:=h28.b.t6
 refine g0<|sA [iV 0,iV 0,uV 0] h29 fun _ h31=>g0 ?_
 exact enR _ [rd 0 0 0 0 3 h31] (tk2 (sf1 (sf5 h31.b.t6)))
theorem topen_arg(b n:Nat)(A:List Sl2)(E:Tm)(RL:List Rs)(x y z hx hy:Int)(L:List UInt8)(hz0:0≤z)(hz1:z≤4294967295)(hm:L.length≤1099511627776)(ho:1≤x∧x≤3∧0≤y∧y≤63∧1≤z)(ht:tagE L=0)(hob:hx<0∨255<hx∨hy≤0):HQ 206 [pV b,.agg #[iV x,iV y,uV z],.string (St L),.agg #[iV hx,uV hy]] [Tab b n A E RL] (.tuple #[.agg #[iV 0,iV 0,uV 0],iV 2]) [Tab b n A E RL]:=by
 refine hiS func206 ntmps206 fun g w0 R h0=>g0<|nP 48 [iV x,iV y,uV z] h0 (fun _ _ h12=> ?_)
 refine nP 203 [iV hx,uV hy] h12 (fun _ _ h15=> ?_)
 refine nP 39 [iV 0,iV 0,uV 0] h15 (fun _ _ h18=> ?_)
 have h19:=h18.c.t5
 refine g0<|cl1 call119 (tvalid_ht b n A E RL) h19 fun _ h21=>go [rd 3 0 3 0 3 h21]<|cl0 call274 (rnew_ok x y z L om om om om om) h21 fun _ h23=>g0<|nP 226 [iV 0,iV 0,uV 0,iV 0,iV 0,iV 0,iV 0,.string (St [])] h23 (fun _ _ h26=> ?_)
 refine sA [iV x,iV y,uV z,iV 1,iV 0,iV 0,iV 0,.string (St L)] h26 fun _ h28=>go [rd 6 0 3 0 2 h28] ?_
 by_cases c29:0≤hx
 ·
  by_cases c30:hx≤255
  ·
   refine cl0 call275 (obj_f hx hy om) h28 fun _ h32=> ?_
   have h33:=h32.b.t6
   refine g0<|sA [iV 0,iV 0,uV 0] h33 fun _ h35=>g0 ?_
   exact enR _ [rd 0 0 0 0 3 h35] (tk2 (sf1 (sf5 h35.b.t6)))
  refine cl0 call275 (obj_f hx hy om) h28 fun _ h39=> ?_
  have h40:=h39.b.t6
  refine g0<|sA [iV 0,iV 0,uV 0] h40 fun _ h42=>g0 ?_
  exact enR _ [rd 0 0 0 0 3 h42] (tk2 (sf1 (sf5 h42.b.t6)))
 refine cl0 call275 (obj_f hx hy om) h28 fun _ h46=> ?_
 have h47:=h46.b.t6
 refine g0<|sA [iV 0,iV 0,uV 0] h47 fun _ h49=>g0 ?_
 exact enR _ [rd 0 0 0 0 3 h49] (tk2 (sf1 (sf5 h49.b.t6)))
theorem topen_out2(b n:Nat)(A:List Sl2)(E:Tm)(RL:List Rs)(x y z hx hy:Int)(L:List UInt8)(hz0:0≤z)(hz1:z≤4294967295)(hm:L.length≤1099511627776)(ho:1≤x∧x≤3∧0≤y∧y≤63∧1≤z)(ht:tagE L=0)(hob:0≤hx∧hx≤255∧1≤hy)(hc: ∃r∈RL,r.out=(x,y,z)):HQ 206 [pV b,.agg #[iV x,iV y,uV z],.string (St L),.agg #[iV hx,uV hy]] [Tab b n A E RL] (.tuple #[.agg #[iV 0,iV 0,uV 0],iV 6]) [Tab b n A E RL]:=by
 refine hiS func206 ntmps206 fun g w0 R h0=>g0<|nP 48 [iV x,iV y,uV z] h0 (fun r10 _ h12=> ?_)
 refine nP 203 [iV hx,uV hy] h12 (fun r13 _ h15=> ?_)
 refine nP 39 [iV 0,iV 0,uV 0] h15 (fun r16 _ h18=> ?_)
 have h19:=h18.c.t5
 refine g0<|cl1 call119 (tvalid_ht b n A E RL) h19 fun _ h21=>go [rd 3 0 3 0 3 h21]<|cl0 call274 (rnew_ok x y z L om om om om om) h21 fun _ h23=>g0<|nP 226 [iV 0,iV 0,uV 0,iV 0,iV 0,iV 0,iV 0,.string (St [])] h23 (fun r24 _ h26=> ?_)
 refine sA [iV x,iV y,uV z,iV 1,iV 0,iV 0,iV 0,.string (St L)] h26 fun _ h28=>go [rd 6 0 3 0 2 h28]<|cl0 call275 (obj_t hx hy om) h28 fun _ h30=> ?_
 obtain⟨s32,m33,p34,c35,E36,hM37,h38⟩:=tab_open h30.a.t6
 have hRl_:=hM37.2
 have h39:=h38.x.d.t9
 refine go [rd 8 3 0 2 1 h38]<|cl2 call276 (rhas_t p34 RL.length c35 r10 RL x y z hc om) h39 fun _ h41=> ?_
 have h42:=h41.f.t9
 refine g0<|sA [iV 0,iV 0,uV 0] h42 fun w43 h44=>g0 ?_
 have h46:sat g _ (Tab b n A E RL::_):=tab_close hM37.1 om (by first|rfl |omega) h44.a.e.e.e.t9
 exact enR _ [rd 0 0 0 0 3 h44] h46.e.a.t2
theorem topen_have(b n:Nat)(A:List Sl2)(E:Tm)(RL:List Rs)(x y z hx hy:Int)(L:List UInt8)(hz0:0≤z)(hz1:z≤4294967295)(hm:L.length≤1099511627776)(ho:1≤x∧x≤3∧0≤y∧y≤63∧1≤z)(ht:tagE L=0)(hob:0≤hx∧hx≤255∧1≤hy)(hc: ∀r∈RL,r.out≠(x,y,z))(hh: ∃e∈allE E,e.h=(hx,hy)):HQ 206 [pV b,.agg #[iV x,iV y,uV z],.string (St L),.agg #[iV hx,uV hy]] [Tab b n A E RL] (.tuple #[.agg #[iV 0,iV 0,uV 0],iV 6]) [Tab b n A E RL]:=by
 refine hiS func206 ntmps206 fun g w0 R h0=>g0<|nP 48 [iV x,iV y,uV z] h0 (fun r10 _ h12=> ?_)
 refine nP 203 [iV hx,uV hy] h12 (fun r13 _ h15=> ?_)
 refine nP 39 [iV 0,iV 0,uV 0] h15 (fun r16 _ h18=> ?_)
 have h19:=h18.c.t5
 refine g0<|cl1 call119 (tvalid_ht b n A E RL) h19 fun _ h21=>go [rd 3 0 3 0 3 h21]<|cl0 call274 (rnew_ok x y z L om om om om om) h21 fun _ h23=>g0<|nP 226 [iV 0,iV 0,uV 0,iV 0,iV 0,iV 0,iV 0,.string (St [])] h23 (fun r24 _ h26=> ?_)
 refine sA [iV x,iV y,uV z,iV 1,iV 0,iV 0,iV 0,.string (St L)] h26 fun _ h28=>go [rd 6 0 3 0 2 h28]<|cl0 call275 (obj_t hx hy om) h28 fun _ h30=> ?_
 obtain⟨s32,m33,p34,c35,E36,hM37,h38⟩:=tab_open h30.a.t6
 have hRl_:=hM37.2
 have h39:=h38.x.d.t9
 refine go [rd 8 3 0 2 1 h38]<|cl2 call276 (rhas_f p34 RL.length c35 r10 RL x y z hc om) h39 fun w40 h41=> ?_
 have h43:sat g _ (Tab b n A E RL::_):=tab_close hM37.1 om (by first|rfl |omega) h41.d.d.d.t9
 refine go [rd 8 8 7 0 2 h41]<|cl1 call278 (thas_t b n A E RL hx hy hh) h43 fun _ h45=> ?_
 have h46:=h45.c.t6
 refine g0<|sA [iV 0,iV 0,uV 0] h46 fun _ h48=>g0 ?_
 exact enR _ [rd 0 0 0 0 3 h48] (tk2 (sf1 (sf5 h48.a.t6)))
theorem topen_full(b n:Nat)(A:List Sl2)(E:Tm)(RL:List Rs)(x y z hx hy:Int)(L:List UInt8)(hz0:0≤z)(hz1:z≤4294967295)(hm:L.length≤1099511627776)(ho:1≤x∧x≤3∧0≤y∧y≤63∧1≤z)(ht:tagE L=0)(hob:0≤hx∧hx≤255∧1≤hy)(hc: ∀r∈RL,r.out≠(x,y,z))(hh: ∀e∈allE E,e.h≠(hx,hy))(hl:RL.length=2000∨(inS 0 A 0).length=0):HQ 206 [pV b,.agg #[iV x,iV y,uV z],.string (St L),.agg #[iV hx,uV hy]] [Tab b n A E RL] (.tuple #[.agg #[iV 0,iV 0,uV 0],iV 4]) [Tab b n A E RL]:=by
 refine hiS func206 ntmps206 fun g w0 R h0=>g0<|nP 48 [iV x,iV y,uV z] h0 (fun r10 _ h12=> ?_)
 refine nP 203 [iV hx,uV hy] h12 (fun r13 _ h15=> ?_)
 refine nP 39 [iV 0,iV 0,uV 0] h15 (fun r16 _ h18=> ?_)
 have h19:=h18.c.t5
 refine g0<|cl1 call119 (tvalid_ht b n A E RL) h19 fun _ h21=>go [rd 3 0 3 0 3 h21]<|cl0 call274 (rnew_ok x y z L om om om om om) h21 fun _ h23=>g0<|nP 226 [iV 0,iV 0,uV 0,iV 0,iV 0,iV 0,iV 0,.string (St [])] h23 (fun r24 _ h26=> ?_)
 refine sA [iV x,iV y,uV z,iV 1,iV 0,iV 0,iV 0,.string (St L)] h26 fun _ h28=>go [rd 6 0 3 0 2 h28]<|cl0 call275 (obj_t hx hy om) h28 fun _ h30=> ?_
 obtain⟨s32,m33,p34,c35,E36,hM37,h38⟩:=tab_open h30.a.t6
 have hRl_:=hM37.2
 have h39:=h38.x.d.t9
 refine go [rd 8 3 0 2 1 h38]<|cl2 call276 (rhas_f p34 RL.length c35 r10 RL x y z hc om) h39 fun w40 h41=> ?_
 have h43:sat g _ (Tab b n A E RL::_):=tab_close hM37.1 om (by first|rfl |omega) h41.d.d.d.t9
 refine go [rd 8 8 7 0 2 h41]<|cl1 call278 (thas_f b n A E RL hx hy hh) h43 fun _ h45=> ?_
 obtain⟨s46,m47,p48,c49,E50,hM51,h52⟩:=tab_open h45
 have hRl_:=hM51.2
 refine go [rd 10 3 0 2 1 h52,.s 10 5] ?_
 by_cases c53:(RL.length:Int)≥2000
 ·
  have h54:=h52.f.t9
  refine go [.v 10 5 (oT _ c53)]<|sA [iV 0,iV 0,uV 0] h54 fun w55 h56=>g0 ?_
  have h58:sat g _ (Tab b n A E RL::_):=tab_close hM51.1 om (by first|rfl |omega) h56.d.d.d.d.t9
  exact enR _ [rd 0 0 0 0 3 h56] h58.e.a.t2
 have h60:=h52.a.t9
 refine go [.v 10 5 (oF _ c53),rd 10 10 0 0 1 h52]<|cl1 call279 (sfree_ht s46 n A) h60 fun _ h62=> ?_
 have h63:=h62.f.t9
 refine go [.v 10 12 (qeT (((inS 0 A 0).length:Nat):Int) 0)]<|sA [iV 0,iV 0,uV 0] h63 fun w64 h65=>g0 ?_
 have h67:sat g _ (Tab b n A E RL::_):=tab_close hM51.1 om (by first|rfl |omega) h65.d.d.c.d.t9
 exact enR _ [rd 0 0 0 0 3 h65] h67.e.a.t2
theorem topen_ok(b n:Nat)(A:List Sl2)(E:Tm)(RL:List Rs)(x y z hx hy:Int)(L:List UInt8)(hz0:0≤z)(hz1:z≤4294967295)(hm:L.length≤1099511627776)(ho:1≤x∧x≤3∧0≤y∧y≤63∧1≤z)(ht:tagE L=0)(hob:0≤hx∧hx≤255∧1≤hy)(hc: ∀r∈RL,r.out≠(x,y,z))(hh: ∀e∈allE E,e.h≠(hx,hy))(hl:RL.length<2000)(j:Nat)(gj:Int)(hj:(inS 0 A 0)[0]? =some (j,gj))(hfl_:1≤(inS 0 A 0).length):HQ 206 [pV b,.agg #[iV x,iV y,uV z],.string (St L),.agg #[iV hx,uV hy]] [Tab b n A E RL] (.tuple #[.agg #[iV x,iV j,uV gj],iV 0]) [Tab b n (A.set j (1,gj)) (gset E (j:Int) ⟨(x,(j:Int),gj),(RL.length:Int)+1,(hx,hy)⟩) (RL++ [(⟨(x,y,z),1,0,0,0,L⟩:Rs)])]:=by
 refine hiS func206 ntmps206 fun g w0 R h0=>g0<|nP 48 [iV x,iV y,uV z] h0 (fun r10 _ h12=> ?_)
 refine nP 203 [iV hx,uV hy] h12 (fun r13 _ h15=> ?_)
 refine nP 39 [iV 0,iV 0,uV 0] h15 (fun r16 _ h18=> ?_)
 have h19:=h18.c.t5
 refine g0<|cl1 call119 (tvalid_ht b n A E RL) h19 fun _ h21=>go [rd 3 0 3 0 3 h21]<|cl0 call274 (rnew_ok x y z L om om om om om) h21 fun _ h23=>g0<|nP 226 [iV 0,iV 0,uV 0,iV 0,iV 0,iV 0,iV 0,.string (St [])] h23 (fun r24 _ h26=> ?_)
 refine sA [iV x,iV y,uV z,iV 1,iV 0,iV 0,iV 0,.string (St L)] h26 fun _ h28=>go [rd 6 0 3 0 2 h28]<|cl0 call275 (obj_t hx hy om) h28 fun _ h30=> ?_
 obtain⟨s32,m33,p34,c35,E36,hM37,h38⟩:=tab_open h30.a.t6
 have hRl_:=hM37.2
 have h39:=h38.x.d.t9
 refine go [rd 8 3 0 2 1 h38]<|cl2 call276 (rhas_f p34 RL.length c35 r10 RL x y z hc om) h39 fun w40 h41=> ?_
 have h43:sat g _ (Tab b n A E RL::_):=tab_close hM37.1 om (by first|rfl |omega) h41.d.d.d.t9
 refine go [rd 8 8 7 0 2 h41]<|cl1 call278 (thas_f b n A E RL hx hy hh) h43 fun _ h45=> ?_
 obtain⟨s46,m47,p48,c49,E50,hM51,h52⟩:=tab_open h45
 have hRl_:=hM51.2
 have h53:=h52.a.t9
 refine go [rd 10 3 0 2 1 h52,.v 10 5 (oF ((RL.length:Int)≥2000)),rd 10 10 0 0 1 h52]<|cl1 call279 (sfree_ht s46 n A) h53 fun _ h55=>go [.v 10 12 (qeF (((inS 0 A 0).length:Nat):Int) 0)]<|dw (fls [0,1,2,3,4,5] (Tr.an 6 (Tr.an 7 (fls [8,9] (Tr.an 10 Tr.nil))))) h55 fun _ h57=>go [rd 12 4 1 2 1 h57,rd 12 5 5 0 8 h57]<|nG (fun q_=> .slice (some ⟨q_,0,none⟩) 1 1) 226 [iV x,iV y,uV z,iV 1,iV 0,iV 0,iV 0,.string (St L)] h57 (fun r58 _ h60=>⟨kd [rd 0 4 2 2 1 h60],?_⟩)
 have h61:=h60.d.t10
 refine actG ?_
 refine aA 67 8 (Ot 64) (Ot 66) (.agg #[iV 0,iV 0,uV 0,iV 0,iV 0,iV 0,iV 0,.string (St [])]) p48 RL.length c49 1 1 (⟨r58,0,none⟩) 72 underlying175 h61 (fl eRs [(⟨(x,y,z),1,0,0,0,L⟩:Rs)]) rfl (cell1 h61 rfl) (fl_one eRs_ok _) (RL.length+1) ?_
 intro p62 cap63 w64 h65
 have h66:sat g _ (Sl 226 8 p62 (RL.length+1) cap63 (fl eRs (RL++ [(⟨(x,y,z),1,0,0,0,L⟩:Rs)]))::_):=sJ h65
 obtain⟨hn67,hn68⟩:=sl_le h66
 refine⟨kd [],nxG ?_⟩
 have h69:=h66.c.t10
 refine g0<|sG [(2,.slice p62 (RL.length+1) cap63)] [pV s46,.map (some m47),.slice p62 (RL.length+1) cap63] h69 fun _ h71=>⟨kd [],?_⟩
 refine g0<|dw (fls [0,1,2,3,4,5,6] (Tr.an 7 (fls [8,9] (Tr.an 10 (Tr.fl 11 Tr.nil))))) h71 fun w72 h73=> ?_
 have h75:sat g _ (TabX b n A E (RL++ [(⟨(x,y,z),1,0,0,0,L⟩:Rs)]) p62 (RL.length+1) cap63::_):=tabx_close hM51.1 (by simp only[List.length_append,List.length_set,List.length_cons,List.length_nil];omega) h73.d.d.b.t10
 refine go [rd 13 4 0 2 1 h73,.v 13 5 (oJ .i64 ((RL.length+1:Nat):Int) ((RL.length:Int)+1)),rd 13 6 8 0 2 h73]<|cw1 call280 (taddx_ok p62 (RL.length+1) cap63 b n A E (RL++ [(⟨(x,y,z),1,0,0,0,L⟩:Rs)]) ((RL.length:Int)+1) hx hy RL.length (⟨(x,y,z),1,0,0,0,L⟩:Rs) (show (RL++ [(⟨(x,y,z),1,0,0,0,L⟩:Rs)])[RL.length]? =some ((⟨(x,y,z),1,0,0,0,L⟩:Rs):Rs) from List.getElem?_concat_length) om j gj hj) h75 fun _ h77=>⟨kd [],?_⟩
 have h78:=h77.d.t7
 refine g0<|sB [iV x,iV j,uV gj] h78 fun w79 h80=>⟨kd [],?_⟩
 refine g0 ?_
 obtain⟨s82,m83,E86,hM87,h88⟩:=tabx_open h80.a.t7
 have hRl_:=hM87.2
 have h89:=h88.c.t10
 have hl90:=fl_n eRs_ok dc h89
 have h92:sat g _ (Tab b n (A.set j (1,gj)) (gset E (j:Int) ⟨(x,(j:Int),gj),(RL.length:Int)+1,(hx,hy)⟩) (RL++ [(⟨(x,y,z),1,0,0,0,L⟩:Rs)])::_):=tab_close hM87.1 (by simp only[List.length_append,List.length_set,List.length_cons,List.length_nil];omega) (by simp only[List.length_append,List.length_set,List.length_cons,List.length_nil]) h89.c.c.c.t10
 exact enR (.tuple #[.agg #[iV x,iV j,uV gj],iV 0]) [rd 0 0 0 0 3 h80] h92.f.a.t2
theorem tset_no(b n:Nat)(A:List Sl2)(E:Tm)(RL:List Rs)(vn x y z st why tr nx:Int)(L:List UInt8)(h:vn<1∨(RL.length:Int)<vn):HQ 316 [pV b,iV vn,.agg #[iV x,iV y,uV z,iV st,iV why,iV tr,iV nx,.string (St L)]] [Tab b n A E RL] (iV 3) [Tab b n A E RL]:=by
 refine hiS func316 ntmps316 fun g w0 R h0=>g0<|nP 226 [iV x,iV y,uV z,iV st,iV why,iV tr,iV nx,.string (St L)] h0 (fun _ _ h12=> ?_)
 have h13:=h12.a.t3
 refine g0<|cl1 call210 (tget_no b n A E RL vn om) h13 fun _ h15=>g0<|nP 226 [iV 0,iV 0,uV 0,iV 0,iV 0,iV 0,iV 0,.string (St [])] h15 (fun _ _ h18=> ?_)
 refine sA [iV 0,iV 0,uV 0,iV 0,iV 0,iV 0,iV 0,.string (St [])] h18 fun _ h20=>g0 ?_
 exact enR _ [] (tk2 (sf1 (sf3 h20.a.t4)))
theorem tset_chk(b n:Nat)(A:List Sl2)(E:Tm)(RL:List Rs)(vn x y z st why tr nx:Int)(L:List UInt8)(hz0:0≤z)(hz1:z≤4294967295)(hm:L.length≤1099511627776)(q:Nat)(r:Rs)(hr:RL[q]? =some r)(hv:vn=(q:Int)+1)(hne: ¬resE x y z st why tr nx L=0):HQ 316 [pV b,iV vn,.agg #[iV x,iV y,uV z,iV st,iV why,iV tr,iV nx,.string (St L)]] [Tab b n A E RL] (iV (resE x y z st why tr nx L)) [Tab b n A E RL]:=by
 have hq_:=(List.getElem?_eq_some_iff.1 hr).1
 refine hiS func316 ntmps316 fun g w0 R h0=>g0<|nP 226 [iV x,iV y,uV z,iV st,iV why,iV tr,iV nx,.string (St L)] h0 (fun _ _ h12=> ?_)
 have h13:=h12.a.t3
 refine g0<|cl1 call210 (tget_ok b n A E RL vn q r hr om) h13 fun _ h15=>g0<|nP 226 [iV 0,iV 0,uV 0,iV 0,iV 0,iV 0,iV 0,.string (St [])] h15 (fun _ _ h18=> ?_)
 refine sA [iV r.out.1,iV r.out.2.1,uV r.out.2.2,iV r.st,iV r.why,iV r.tr,iV r.nx,.string (St r.tag)] h18 fun _ h20=>go [rd 4 0 2 0 8 h20]<|cl0 call352 (rchk_ht x y z st why tr nx L om om om) h20 fun _ h22=>go [.v 5 1 (qnT (resE x y z st why tr nx L) 0)] ?_
 exact enR _ [] (tk2 (sf1 (sf3 h22.a.t4)))
structure Ts where
 A:List Sl2
 E:Tm
 R:List Rs
def goodD(d:Ky):Prop:=1≤d.1∧d.1≤3∧0≤d.2.1∧d.2.1≤255∧1≤d.2.2
instance (d:Ky):Decidable (goodD d):=by unfold goodD;infer_instance
def objH(h:Int×Int):Prop:=0≤h.1∧h.1≤255∧1≤h.2
instance (h:Int×Int):Decidable (objH h):=by unfold objH;infer_instance
def rs0:Rs:=⟨(0,0,0),0,0,0,0,[]⟩
def resR(r:Rs):Int:=resE r.out.1 r.out.2.1 r.out.2.2 r.st r.why r.tr r.nx r.tag
def fndO(S:Ts)(d:Ky):Option Ety:=match gget S.E d.2.1 with
 |some e=>if e.d=d then some e else none
 |none=>none
def fndE(S:Ts)(d:Ky):Int:=if goodD d then (if (fndO S d).isSome then 0 else 7) else 2
def fndX(S:Ts)(d:Ky):Ety:=if fndE S d=0 then (fndO S d).getD noE else noE
def freeS(A:List Sl2):Option (Nat×Int):=(inS 0 A 0)[0]?
def hasH(E:Tm)(h:Int×Int):Prop:= ∃e∈allE E,e.h=h
instance (E:Tm) (h:Int×Int):Decidable (hasH E h):=by unfold hasH;infer_instance
def hasO(R:List Rs)(o:Ky):Prop:= ∃r∈R,r.out=o
instance (R:List Rs) (o:Ky):Decidable (hasO R o):=by unfold hasO;infer_instance
def addS(S:Ts)(k num:Int)(h:Int×Int):Ts:=match freeS S.A with
 |some (j,g)=>⟨S.A.set j (1,g),gset S.E (j:Int) ⟨(k,(j:Int),g),num,h⟩,S.R⟩
 |none=>S
def addD(A:List Sl2)(k:Int):Ky:=match freeS A with
 |some (j,g)=>(k,(j:Int),g)
 |none=>(0,0,0)
def newE(o:Ky)(L:List UInt8):Int:=resE o.1 o.2.1 o.2.2 1 0 0 0 L
def topE(S:Ts)(o:Ky)(L:List UInt8)(h:Int×Int):Int:=if newE o L≠0 then newE o L else if ¬objH h then 2 else if hasO S.R o∨hasH S.E h then 6 else if 2000≤S.R.length∨freeS S.A=none then 4 else 0
def opnS(S:Ts)(o:Ky)(L:List UInt8)(h:Int×Int):Ts:=if topE S o L h=0 then addS ⟨S.A,S.E,S.R++ [⟨o,1,0,0,0,L⟩]⟩ o.1 ((S.R.length:Int)+1) h else S
def opnD(S:Ts)(o:Ky)(L:List UInt8)(h:Int×Int):Ky:=if topE S o L h=0 then addD S.A o.1 else (0,0,0)
def dropS(S:Ts)(d:Ky):Ts:=⟨giveA S.A d.2.1.toNat d.2.2,gdel S.E d.2.1,S.R⟩
def clsS(S:Ts)(d:Ky):Ts:=if fndE S d=0 then dropS S d else S
def clsL(S:Ts)(d:Ky):Bool:=decide (fndE S d=0∧(descs (dropS S d).E (fndX S d).num).length=0)
def nE(S:Ts)(v:Int):Int:=if 1≤v∧v≤(S.R.length:Int) then 0 else 3
def getR(S:Ts)(v:Int):Rs:=if 1≤v then (S.R[(v-1).toNat]?).getD rs0 else rs0
def setE(S:Ts)(v:Int)(r:Rs):Int:=if nE S v≠0 then 3 else if resR r≠0 then resR r else if r.out≠(getR S v).out∨r.tag≠(getR S v).tag then 2 else if r.st≠1∧0<(descs S.E v).length then 8 else 0
def setS(S:Ts)(v:Int)(r:Rs):Ts:=if setE S v r=0 then ⟨S.A,S.E,S.R.set (v-1).toNat r⟩ else S
def numsT(R:List Rs)(st:Int)(k:Nat):List Int:=((List.range k).filter fun i=>(R[i]?).any fun r=>r.st==st).map fun i:Nat=>(i:Int)+1
def nums(R:List Rs)(st:Int):List Int:=numsT R st R.length
structure Wf (n:Nat) (S:Ts):Prop where
 len:S.A.length=n
 bd:1≤n∧n≤256
 ok:SlOk S.A
 rl:S.R.length≤2000
 nd:KN S.E
 ent: ∀(k:Int) (e:Ety),gget S.E k=some e→(∃q:Nat,k=(q:Int)∧S.A[q]? =some (1,e.d.2.2))∧e.d.2.1=k∧(∃(q:Nat) (r:Rs),S.R[q]? =some r∧e.num=(q:Int)+1∧r.out.1=e.d.1∧r.st=1)∧objH e.h
 tak: ∀(q:Nat) (g:Int),S.A[q]? =some (1,g)→ ∃e,gget S.E (q:Int)=some e
 res: ∀r∈S.R,resR r=0
 out:(S.R.map (·.out)).Nodup
 og: ∀r∈S.R,r.out.2.2≤4294967295
 hnd: ∀(k1 k2:Int) (e1 e2:Ety),gget S.E k1=some e1→gget S.E k2=some e2→e1.h=e2.h→k1=k2
theorem fndO_some{S:Ts}{d:Ky}{e:Ety}:fndO S d=some e↔gget S.E d.2.1=some e∧e.d=d:=by
 unfold fndO
 cases h:gget S.E d.2.1 with
 |none=>simp
 |some x=>
  simp only
  split
  · rename_i hx
    constructor
    · intro he
      obtain rfl:=Option.some.inj he
      exact⟨rfl,hx⟩
    · rintro⟨he,_⟩
      exact he
  · rename_i hx
    constructor
    · intro he;cases he
    · rintro⟨he,h2⟩
      obtain rfl:=Option.some.inj he
      exact absurd h2 hx
theorem fndE_ok{S:Ts}{d:Ky}:fndE S d=0↔goodD d∧ ∃e,gget S.E d.2.1=some e∧e.d=d:=by
 unfold fndE
 split
 · rename_i hg
   cases h:fndO S d with
   |none=>
    simp only[Option.isSome_none,Bool.false_eq_true,if_false]
    constructor
    · intro h2;omega
    · rintro⟨_,e,he⟩
      have:=fndO_some.2 he
      rw[h] at this
      cases this
   |some e=>simp only[Option.isSome_some,if_true];exact⟨fun _=>⟨hg,e,fndO_some.1 h⟩,fun _=>trivial⟩
 · rename_i hg
   constructor
   · intro h2;omega
   · rintro⟨h2,_⟩;exact absurd h2 hg
theorem fndX_ok{S:Ts}{d:Ky}{e:Ety}(hg:goodD d)(h1:gget S.E d.2.1=some e)(h2:e.d=d):fndE S d=0∧fndX S d=e:=by
 have h0:fndE S d=0:=fndE_ok.2 ⟨hg,e,h1,h2⟩
 refine⟨h0,?_⟩
 unfold fndX
 rw[if_pos h0,fndO_some.2 ⟨h1,h2⟩]
 rfl
theorem fndX_bad{S:Ts}{d:Ky}(hg: ¬goodD d):fndE S d=2∧fndX S d=noE:=by
 have h0:fndE S d=2:=if_neg hg
 refine⟨h0,?_⟩
 unfold fndX
 rw[if_neg om]
theorem fndX_no{S:Ts}{d:Ky}(hg:goodD d)(h: ∀e,gget S.E d.2.1=some e→e.d≠d):fndE S d=7∧fndX S d=noE:=by
 have h0:fndE S d=7:=by
  unfold fndE
  rw[if_pos hg]
  cases h2:fndO S d with
  |none=>rfl
  |some e=>exact absurd (fndO_some.1 h2).2 (h e (fndO_some.1 h2).1)
 refine⟨h0,?_⟩
 unfold fndX
 rw[if_neg om]
theorem fnd_cases(S:Ts)(d:Ky):(¬goodD d∧fndE S d=2∧fndX S d=noE)∨(goodD d∧(∀e,gget S.E d.2.1=some e→e.d≠d)∧fndE S d=7∧fndX S d=noE)∨(goodD d∧ ∃e,gget S.E d.2.1=some e∧e.d=d∧fndE S d=0∧fndX S d=e):=by
 by_cases hg:goodD d
 · by_cases h: ∃e,gget S.E d.2.1=some e∧e.d=d
   · obtain⟨e,h1,h2⟩:=h
     exact .inr (.inr ⟨hg,e,h1,h2,fndX_ok hg h1 h2⟩)
   · have h': ∀e,gget S.E d.2.1=some e→e.d≠d:=fun e h1 h2=>h ⟨e,h1,h2⟩
     exact .inr (.inl ⟨hg,h',fndX_no hg h'⟩)
 · exact .inl ⟨hg,fndX_bad hg⟩
theorem mem_allE{E:Tm}{e:Ety}:e∈allE E↔ ∃k:Nat,k<256∧gget E (k:Int)=some e:=by
 unfold allE someE
 rw[List.mem_filterMap]
 constructor
 · rintro⟨k,hk,he⟩;exact⟨k,List.mem_range.1 hk,he⟩
 · rintro⟨k,hk,he⟩;exact⟨k,List.mem_range.2 hk,he⟩
theorem freeS_some{A:List Sl2}{j:Nat}{g:Int}(h:freeS A=some (j,g)):A[j]? =some (0,g):=by
 have:=(inS_mem h).2
 simpa using this
theorem freeS_none{A:List Sl2}:freeS A=none↔(inS 0 A 0).length=0:=by
 unfold freeS
 rw[List.getElem?_eq_none_iff]
 omega
theorem giveA_get{A:List Sl2}{q:Nat}{z:Int}{j:Nat}(h:j≠q):(giveA A q z)[j]? =A[j]? :=by
 unfold giveA
 split
 · rw[List.getElem?_set_ne (Ne.symm h)]
 · rw[List.getElem?_set_ne (Ne.symm h)]
theorem giveA_self{A:List Sl2}{q:Nat}{z:Int}(h:q<A.length):(giveA A q z)[q]? =some (if z<4294967295 then (0,z+1) else (2,z)):=by
 unfold giveA
 split
 · rw[List.getElem?_set_self h]
 · rw[List.getElem?_set_self h]
theorem giveA_len(A:List Sl2)(q:Nat)(z:Int):(giveA A q z).length=A.length:=by unfold giveA;split<;>rw[List.length_set]
theorem wf_slot{n:Nat}{S:Ts}(W:Wf n S){k:Int}{e:Ety}(h:gget S.E k=some e): ∃q:Nat,k=(q:Int)∧q<n∧S.A[q]? =some (1,e.d.2.2):=by
 obtain⟨⟨q,h1,h2⟩,_⟩:=W.ent k e h
 exact⟨q,h1,by have:=(List.getElem?_eq_some_iff.1 h2).1;rw[W.len] at this;exact this,h2⟩
theorem wf_all{n:Nat}{S:Ts}(W:Wf n S){k:Int}{e:Ety}(h:gget S.E k=some e):e∈allE S.E:=by
 obtain⟨q,h1,h2,_⟩:=wf_slot W h
 exact mem_allE.2 ⟨q,by have:=W.bd.2;omega,by rw[←h1];exact h⟩
theorem wf_good{n:Nat}{S:Ts}(W:Wf n S){k:Int}{e:Ety}(h:gget S.E k=some e):goodD e.d:=by
 obtain⟨⟨q,h1,h2⟩,h3,⟨p,r,hp,_,hk,_⟩,_⟩:=W.ent k e h
 obtain⟨q',h1',h2',_⟩:=wf_slot W h
 have hr:=W.res r (List.mem_of_getElem? hp)
 have hs:=W.ok _ (List.mem_of_getElem? h2)
 have hb:=W.bd.2
 unfold resR resE at hr
 split at hr
 · rename_i hpos
   have hx:=hpos.1
   unfold goodD
   simp only at hs
   omega
 · omega
theorem wf_add{n:Nat}{S:Ts}(W:Wf n S){k num:Int}{h:Int×Int}{q:Nat}{r:Rs}(hr:S.R[q]? =some r)(hn:num=(q:Int)+1)(hk:r.out.1=k)(hst:r.st=1)(ho:objH h)(hh: ¬hasH S.E h):Wf n (addS S k num h):=by
 unfold addS
 cases hf:freeS S.A with
 |none=>exact W
 |some p=>
  obtain⟨j,g⟩:=p
  have hj:=freeS_some hf
  have hjl:=(List.getElem?_eq_some_iff.1 hj).1
  have hno:gget S.E (j:Int)=none:=by
   cases hg:gget S.E (j:Int) with
   |none=>rfl
   |some e=>
    obtain⟨q2,h1,_,h2⟩:=wf_slot W hg
    obtain rfl:j=q2:=by omega
    rw[hj] at h2
    simp at h2
  refine⟨by simp only[List.length_set];exact W.len,W.bd,slOk_set W.ok (by have:=W.ok _ (List.mem_of_getElem? hj);simp only at this ⊢;omega),W.rl,kn_set W.nd,?_,?_,W.res,W.out,W.og,?_⟩
  · intro k2 e2 he
    simp only at he
    rw[gget_set] at he
    split at he
    · rename_i hk2
      obtain rfl:=Option.some.inj he
      refine⟨⟨j,hk2,List.getElem?_set_self hjl⟩,hk2.symm,⟨q,r,hr,hn,hk,hst⟩,ho⟩
    · rename_i hk2
      obtain⟨⟨q2,h1,h2⟩,h3,h4,h5⟩:=W.ent k2 e2 he
      refine⟨⟨q2,h1,?_⟩,h3,h4,h5⟩
      simp only
      rw[List.getElem?_set_ne (by rintro rfl;exact hk2 h1)]
      exact h2
  · intro q2 g2 hq
    simp only at hq ⊢
    rw[gget_set]
    split
    · exact⟨_,rfl⟩
    · rename_i hq2
      rw[List.getElem?_set_ne (by rintro rfl;exact hq2 rfl)] at hq
      exact W.tak q2 g2 hq
  · intro k1 k2 e1 e2 h1 h2 he
    simp only at h1 h2
    rw[gget_set] at h1 h2
    split at h1
    · rename_i hk1
      split at h2
      · rename_i hk2;rw[hk1,hk2]
      · obtain rfl:=Option.some.inj h1
        exact absurd ⟨e2,wf_all W h2,he.symm⟩ hh
    · split at h2
      · obtain rfl:=Option.some.inj h2
        exact absurd ⟨e1,wf_all W h1,he⟩ hh
      · exact W.hnd k1 k2 e1 e2 h1 h2 he
theorem newE_cases(o:Ky)(L:List UInt8):(¬(1≤o.1∧o.1≤3∧0≤o.2.1∧o.2.1≤63∧1≤o.2.2)∧newE o L=2)∨((1≤o.1∧o.1≤3∧0≤o.2.1∧o.2.1≤63∧1≤o.2.2)∧newE o L=tagE L):=by
 unfold newE resE posP
 by_cases h:1≤o.1∧o.1≤3∧0≤o.2.1∧o.2.1≤63∧1≤o.2.2
 · exact .inr ⟨h,if_pos ⟨h,.inl ⟨rfl,rfl,rfl,rfl⟩⟩⟩
 · exact .inl ⟨h,if_neg fun h2=>h h2.1⟩
theorem opnE_ok{S:Ts}{o:Ky}{L:List UInt8}{h:Int×Int}(h0:topE S o L h=0):newE o L=0∧objH h∧ ¬hasO S.R o∧ ¬hasH S.E h∧S.R.length<2000∧ ∃j g,freeS S.A=some (j,g):=by
 unfold topE at h0
 by_cases h1:newE o L=0
 · rw[if_neg om] at h0
   by_cases h2:objH h
   · rw[if_neg (by simpa using h2)] at h0
     split at h0
     · omega
     · rename_i h3
       split at h0
       · omega
       · rename_i h4
         refine⟨h1,h2,fun hh=>h3 (.inl hh),fun hh=>h3 (.inr hh),by omega,?_⟩
         cases hf:freeS S.A with
         |none=>exact absurd (.inr hf) h4
         |some p=>exact⟨p.1,p.2,rfl⟩
   · rw[if_pos h2] at h0;omega
 · rw[if_pos h1] at h0;omega
theorem wf_app{n:Nat}{S:Ts}(W:Wf n S){r:Rs}(hl:S.R.length<2000)(hr:resR r=0)(ho: ¬hasO S.R r.out)(hg:r.out.2.2≤4294967295):Wf n ⟨S.A,S.E,S.R++ [r]⟩:=by
 refine⟨W.len,W.bd,W.ok,by simp only[List.length_append,List.length_cons,List.length_nil];omega,W.nd,?_,W.tak,?_,?_,?_,W.hnd⟩
 · intro k e he
   obtain⟨h1,h2,⟨q,r2,h3,h4⟩,h5⟩:=W.ent k e he
   exact⟨h1,h2,⟨q,r2,by simp only;rw[List.getElem?_append_left (List.getElem?_eq_some_iff.1 h3).1];exact h3,h4⟩,h5⟩
 · intro r2 h2
   rcases List.mem_append.1 h2 with h3|h3
   · exact W.res r2 h3
   · rw[List.mem_singleton.1 h3];exact hr
 · simp only[List.map_append,List.map_cons,List.map_nil]
   refine List.nodup_append.2 ⟨W.out,by simp,?_⟩
   intro a ha b hb hab
   obtain⟨r2,h3,h4⟩:=List.mem_map.1 ha
   rw[List.mem_singleton.1 hb] at hab
   exact ho ⟨r2,h3,h4.trans hab⟩
 · intro r2 h2
   rcases List.mem_append.1 h2 with h3|h3
   · exact W.og r2 h3
   · rw[List.mem_singleton.1 h3];exact hg
theorem wf_opn{n:Nat}{S:Ts}(W:Wf n S){o:Ky}(hg:o.2.2≤4294967295)(L:List UInt8)(h:Int×Int):Wf n (opnS S o L h):=by
 unfold opnS
 split
 · rename_i h0
   obtain⟨h1,h2,h3,h4,h5,_⟩:=opnE_ok h0
   have W2:=wf_app W (r:=⟨o,1,0,0,0,L⟩) h5 h1 h3 hg
   exact wf_add W2 (q:=S.R.length) (r:=⟨o,1,0,0,0,L⟩) (by simp) rfl rfl rfl h2 h4
 · exact W
theorem wf_drop{n:Nat}{S:Ts}(W:Wf n S){d:Ky}{e:Ety}(he:gget S.E d.2.1=some e)(hd:e.d=d):Wf n (dropS S d):=by
 obtain⟨q,h1,h2,h3⟩:=wf_slot W he
 have hq:d.2.1.toNat=q:=by omega
 have hql:q<S.A.length:=by rw[W.len];exact h2
 have hg:=wf_good W he
 rw[hd] at hg h3
 have hd4:=W.ok _ (List.mem_of_getElem? h3)
 simp only at hd4
 unfold dropS
 rw[hq]
 refine⟨by simp only;rw[giveA_len];exact W.len,W.bd,slOk_give W.ok h3 rfl,W.rl,kn_del W.nd,?_,?_,W.res,W.out,W.og,?_⟩
 · intro k2 e2 h5
   simp only at h5
   by_cases hk:k2=d.2.1
   · subst hk;rw[gget_del_self W.nd] at h5;cases h5
   · rw[gget_del hk] at h5
     obtain⟨⟨q2,h6,h7⟩,h8⟩:=W.ent k2 e2 h5
     refine⟨⟨q2,h6,?_⟩,h8⟩
     simp only
     rw[giveA_get (by rintro rfl;exact hk (h6.trans h1.symm))]
     exact h7
 · intro q2 g2 h5
   simp only at h5 ⊢
   by_cases hk:q2=q
   · subst hk
     rw[giveA_self hql] at h5
     split at h5<;>simp at h5
   · rw[giveA_get hk] at h5
     rw[gget_del om]
     exact W.tak q2 g2 h5
 · intro k1 k2 e1 e2 h5 h6 h7
   simp only at h5 h6
   by_cases hk1:k1=d.2.1
   · subst hk1;rw[gget_del_self W.nd] at h5;cases h5
   · by_cases hk2:k2=d.2.1
     · subst hk2;rw[gget_del_self W.nd] at h6;cases h6
     · rw[gget_del hk1] at h5
       rw[gget_del hk2] at h6
       exact W.hnd k1 k2 e1 e2 h5 h6 h7
theorem wf_cls{n:Nat}{S:Ts}(W:Wf n S)(d:Ky):Wf n (clsS S d):=by
 unfold clsS
 split
 · rename_i h0
   obtain⟨_,e,h1,h2⟩:=fndE_ok.1 h0
   exact wf_drop W h1 h2
 · exact W
theorem mem_descs{E:Tm}{v:Int}{d:Ky}:d∈descs E v↔ ∃e∈allE E,e.num=v∧e.d=d:=by
 unfold descs
 rw[List.mem_filterMap]
 constructor
 · rintro⟨e,h1,h2⟩
   split at h2
   · rename_i h3;exact⟨e,h1,h3,Option.some.inj h2⟩
   · cases h2
 · rintro⟨e,h1,h2,h3⟩
   exact⟨e,h1,by rw[if_pos h2,h3]⟩
theorem set_self{α:Type}{l:List α}{i:Nat}{x:α}(h:l[i]? =some x):l.set i x=l:=by
 apply List.ext_getElem?
 intro j
 by_cases hj:i=j
 · subst hj
   rw[List.getElem?_set_self (List.getElem?_eq_some_iff.1 h).1,h]
 · rw[List.getElem?_set_ne hj]
theorem setE_ok{S:Ts}{v:Int}{r:Rs}(h0:setE S v r=0):(1≤v∧v≤(S.R.length:Int))∧resR r=0∧r.out=(getR S v).out∧r.tag=(getR S v).tag∧(r.st=1∨(descs S.E v).length=0):=by
 unfold setE at h0
 split at h0
 · omega
 · rename_i h1
   split at h0
   · omega
   · rename_i h2
     split at h0
     · omega
     · rename_i h3
       split at h0
       · omega
       · rename_i h4
         refine⟨?_,by omega,?_,?_,by omega⟩
         · unfold nE at h1
           split at h1
           · assumption
           · omega
         · exact Classical.byContradiction fun h=>h3 (.inl h)
         · exact Classical.byContradiction fun h=>h3 (.inr h)
theorem getR_at{S:Ts}{v:Int}(h:1≤v∧v≤(S.R.length:Int)):S.R[(v-1).toNat]? =some (getR S v):=by
 have hl:(v-1).toNat<S.R.length:=by omega
 unfold getR
 rw[if_pos h.1,List.getElem?_eq_getElem hl]
 rfl
theorem getR_no{S:Ts}{v:Int}(h: ¬(1≤v∧v≤(S.R.length:Int))):getR S v=rs0:=by
 unfold getR
 split
 · rw[List.getElem?_eq_none om];rfl
 · rfl
theorem wf_set{n:Nat}{S:Ts}(W:Wf n S)(v:Int)(r:Rs):Wf n (setS S v r):=by
 unfold setS
 split
 · rename_i h0
   obtain⟨h1,h2,h3,h4,h5⟩:=setE_ok h0
   have hg:=getR_at h1
   have hl:=(List.getElem?_eq_some_iff.1 hg).1
   refine⟨W.len,W.bd,W.ok,by simp only[List.length_set];exact W.rl,W.nd,?_,W.tak,?_,?_,?_,W.hnd⟩
   · intro k e he
     obtain⟨e1,e2,⟨q,r2,e3,e4,e5,e6⟩,e7⟩:=W.ent k e he
     refine⟨e1,e2,?_,e7⟩
     by_cases hq:q=(v-1).toNat
     · refine⟨q,r,by simp only;rw[hq,List.getElem?_set_self hl],e4,?_,?_⟩
       · subst hq
         rw[hg] at e3
         obtain rfl:=Option.some.inj e3
         rw[h3];exact e5
       · rcases h5 with h5|h5
         · exact h5
         · exfalso
           have hm:e.d∈descs S.E v:=mem_descs.2 ⟨e,wf_all W he,by omega,rfl⟩
           rw[List.length_eq_zero_iff.1 h5] at hm
           cases hm
     · exact⟨q,r2,by simp only;rw[List.getElem?_set_ne (Ne.symm hq)];exact e3,e4,e5,e6⟩
   · intro r2 hr2
     rcases List.mem_or_eq_of_mem_set hr2 with h6|h6
     · exact W.res r2 h6
     · rw[h6];exact h2
   · have:(S.R.set (v-1).toNat r).map (·.out)=S.R.map (·.out):=by
      rw[List.map_set]
      have h7:(S.R.map (·.out))[(v-1).toNat]? =some r.out:=by rw[List.getElem?_map,hg,h3];rfl
      rw[set_self h7]
     simp only
     rw[this]
     exact W.out
   · intro r2 hr2
     rcases List.mem_or_eq_of_mem_set hr2 with h6|h6
     · exact W.og r2 h6
     · rw[h6,h3];exact W.og _ (List.mem_of_getElem? hg)
 · exact W
theorem wf_new{n:Nat}{g:Int}(hn:1≤n∧n≤256)(hg:1≤g∧g≤4294967295):Wf n ⟨List.replicate n (0,g),[],[]⟩:=by
 refine⟨List.length_replicate,hn,?_,by simp,List.nodup_nil,?_,?_,?_,List.nodup_nil,(fun r hr=>by cases hr),?_⟩
 · intro s hs
   have:=List.eq_of_mem_replicate hs
   subst this
   simp only
   omega
 · intro k e he;cases he
 · intro q g2 hq
   simp only at hq
   rw[List.getElem?_replicate] at hq
   split at hq
   · simp at hq
   · cases hq
 · intro r hr;cases hr
 · intro k1 k2 e1 e2 h1;cases h1
end Go.Proofs.YtcgkoffnknpgjaaGreatDoor
