/- Walks, printed by my generator ../out/a0.py. -/
import Derived.Test.YtehlamblpekmkaaGreatDoorProg
import Derived.Test.YtehlamblpekmkaaGreatDoorHq
import Derived.Test.YtehlamblpekmkaaGreatDoorBundle32
import Derived.Test.YtehlamblpekmkaaGreatDoorRws
import Derived.Test.YtehlamblpekmkaaGreatDoorRn2
import Derived.Test.YtehlamblpekmkaaGreatDoorRf4
import Derived.Test.YtehlamblpekmkaaGreatDoorBundle31
namespace Go.Proofs.YtehlamblpekmkaaGreatDoor
open Tryz
set_option maxHeartbeats 4000000
section
open Go.RowKit
abbrev letW:List Value:= [.int .u8 0,.int .u8 111,.int .u8 108,.int .u8 102]
def Lett(wo:World):Prop:= ∀(k:Nat) (v:Value),letW[k]? =some v→wo.cell? ⟨0,k,none⟩=some v
def Sr(T b:Nat)(L:List Int):Assn:=fun h=>L.length≤2000∧ ∃x:Option Addr×Nat,star [Cl b [.bool true,.slice x.1 L.length x.2] T,Vw 3 1 x.1 L.length x.2 (fl eI L)] h
section
variable {g w : World} {A : List Assn} {T b : Nat} {L : List Int} {l : List UInt8} {p ad : Option Addr} {c : Nat}
theorem sr_open(h:sat g w (Sr T b L::A)):L.length≤2000∧ ∃p c,sat g w (Cl b [.bool true,.slice p L.length c] T::Vw 3 1 p L.length c (fl eI L)::A):=by
 obtain⟨⟨p,c⟩,hl,h1⟩:=sat_open (X:=Option Addr×Nat) (p:=fun _=>L.length≤2000) (B:=fun x=>star [Cl b [.bool true,.slice x.1 L.length x.2] T,Vw 3 1 x.1 L.length x.2 (fl eI L)]) h (fun k hk=>by
  obtain⟨h1,x,h2⟩:=hk
  exact⟨x,h1,h2⟩)
 exact⟨hl,p,c,sat_unstar h1⟩
theorem sr_close(hl:L.length≤2000)(h:sat g w (Cl b [.bool true,.slice p L.length c] T::Vw 3 1 p L.length c (fl eI L)::A)):sat g w (Sr T b L::A):=
 sat_imp (sat_star (K:= [Cl b [.bool true,.slice p L.length c] T,Vw 3 1 p L.length c (fl eI L)]) h) fun k hk=>⟨hl,(p,c),hk⟩
end
section
variable {g w : World} {A : List Assn} {T b : Nat} {L : List Int} {p : Option Addr} {c : Nat}
theorem sr_next{q:Option Addr}{b' off off':Nat}(hp:p=some ⟨b',off,none⟩)(hq:q=some ⟨b',off',none⟩)(hn:0<L.length)(ho:(if c=1 then off else off+1*1)=off')(h:sat g w (Vw 3 1 p L.length c (fl eI L)::A)):sat g w (Vw 3 1 q L.tail.length (c-1) (fl eI L.tail)::A):=by
 have h1:=vw_drop (i:=1) hp hn ho hq h
 rw[fl_drop eI_ok,tl_drop] at h1
 rw[List.length_tail]
 exact h1
end
end
theorem index_ht(wo:World)(hg:Lett wo)(z:Int):HQ 267 [.slice (some ⟨0,1,none⟩) 3 3,yV z] [Old wo] (iV (ix z)) [Old wo]:=by
 refine hiS func267 ntmps267 fun g w0 R h0=>go [.v 1 1 (oJ .i64 (3:Int) 3)]<|unS 3<|go [.s 4 3]<|lwP (.pointer (some ⟨0,1,none⟩)) (liS (Ot 12) (Ot 13) 0 1 0 3 3 underlying161 1 0 1)<|go [.r 4 4 0 1 [yV 111] ⟨sat_cellOld h0 0 rfl (hg 1 _ rfl),trivial⟩,.s 4 5] ?_
 by_cases c10:z=111
 ·
  refine go [.v 4 5 (qeT _ _ c10)]<|up<|g0 ?_
  exact en (iV 0) [] ⟨_,_,rfl,⟨congrArg (Value.int .i64) (by unfold ix;(repeat split)<;>omega),rfl⟩,h0⟩
 refine go [.v 4 5 (qeF _ _ c10)]<|unN<|go [.s 4 3]<|lwP (.pointer (some ⟨0,2,none⟩)) (liS (Ot 12) (Ot 13) 0 1 1 3 3 underlying161 1 1 2)<|go [.r 4 4 0 2 [yV 108] ⟨sat_cellOld h0 0 rfl (hg 2 _ rfl),trivial⟩,.s 4 5] ?_
 by_cases c11:z=108
 ·
  refine go [.v 4 5 (qeT _ _ c11)]<|up<|g0 ?_
  exact en (iV 1) [] ⟨_,_,rfl,⟨congrArg (Value.int .i64) (by unfold ix;(repeat split)<;>omega),rfl⟩,h0⟩
 refine go [.v 4 5 (qeF _ _ c11)]<|unN<|go [.s 4 3]<|lwP (.pointer (some ⟨0,3,none⟩)) (liS (Ot 12) (Ot 13) 0 1 2 3 3 underlying161 1 2 3)<|go [.r 4 4 0 3 [yV 102] ⟨sat_cellOld h0 0 rfl (hg 3 _ rfl),trivial⟩,.s 4 5] ?_
 by_cases c12:z=102
 ·
  refine go [.v 4 5 (qeT _ _ c12)]<|up<|g0 ?_
  exact en (iV 2) [] ⟨_,_,rfl,⟨congrArg (Value.int .i64) (by unfold ix;(repeat split)<;>omega),rfl⟩,h0⟩
 refine go [.v 4 5 (qeF _ _ c12)]<|unN<|g0<|up<|g0 ?_
 exact en (iV (-1)) [] ⟨_,_,rfl,⟨congrArg (Value.int .i64) (by unfold ix;(repeat split)<;>omega),rfl⟩,h0⟩
theorem read_ht(l:List UInt8):HT prog 217 [.string (St l)] [] (fun v K=> ∃b,v= .func (Fn.func 266) #[] #[pV b]∧K= [Cl b [.string (St l)] 9]):=by
 refine hiS func217 ntmps217 fun g w0 R h0=>g0<|nP 9 [.string (St l)] h0 (fun r10 _ h12=> ?_)
 refine g0 ?_
 exact en (.func (Fn.func 266) #[] #[pV r10]) [] ⟨_,_,rfl,⟨r10,rfl,rfl⟩,h12⟩
theorem read_it(wo:World)(hg:Lett wo)(b:Nat)(l:List UInt8)(hl:l.length≤1099511627776):IT prog 266 [pV b] (gl l) (fun i=> [iV (cd (l.getD i 0))]) [Cl b [.string (St l)] 9,Old wo]:=by
 have hgl:=gl_le l
 refine itS func266 ntmps266 fun g w0 R k_ J_ E_ hY h0=> ?_
 have h10:sat g w0 [J_ 0,Cl b [.string (St l)] 9,Old wo,R]:=h0
 refine go [rd 0 0 1 0 1 h10,.v 0 1 (⟨iV ((St l).size:Int),iV (l.length:Int),(ov_int (st_len _))⟩)] ?_
 refine lpS (fun mz_ a w=> ∃i:Nat,∃lr:Fr,mz_=l.length-i∧(i≤gl l)∧a=mk 25 (([(0,.func (Fn.yield k_) #[] #[]),(1,pV b),(6,iV (l.length:Int)),(7,iV (i:Int))]:Fr)++lr)∧sat g w [J_ i,Cl b [.string (St l)] 9,Old wo,R]) (l.length-0) ⟨0,_,rfl,(Nat.zero_le _),(lvF [.k 0 (.func (Fn.yield k_) #[] #[]),.k 1 (pV b),.k 6 (iV (l.length:Int)),.o 7 (oJ .i64 0 (0:Int))]),h10⟩ ?_
 rintro m12 a13 w14 ⟨i,lr11,rfl,hi,rfl,h15⟩
 refine ga<|go [.s 1 0] ?_
 by_cases c16:(i:Int)<(l.length:Int)
 ·
  refine go [.v 1 0 (oT _ c16)]<|dw (fls [0,1,2,3] (Tr.an 4 (fls [5,6] Tr.nil))) h15 fun _ h18=>go [.s 3 0]<|lw (.slice (some ⟨0,1,none⟩) 3 3) (fun _=>law_sliceArr (x:=(Operand.global 0)) (lo:=(some (Operand.const (iV 1)))) (hi:=none) (b:=0) (off:=0) kr underlying353 1 kr 1 4 1 4 kr (show fe _ _ (Operand.const (iV 1))=_ from by kernel_rfl) rfl om om om om 1 ((if_neg om).trans om) 3 3 om om _) ?_
  obtain⟨x19,hx20⟩:=gX l i om
  have hb21:=u8_lt x19
  refine go [rd 3 1 1 0 1 h18,.s 3 3]<|lw (yV (x19.toNat:Int)) (fun _=>law_idxStr (x:=Ot 11) (i:=Ot 12) (k:= .i64) (s:=l) (z:=(i:Int)) (b:=x19) kr underlying9 kr kr i om hx20 _)<|cw1 call267 (index_ht wo hg (x19.toNat:Int)) h18.b.t4 fun _ h24=> ?_
  have hx25:=ix_bd (x19.toNat:Int)
  refine⟨kd [],?_⟩
  refine go [.v 3 5 (oIr ((ix (x19.toNat:Int))+1)),.s 4 99999] ?_
  refine plS 5<|go [.s 4 1] ?_
  by_cases c26:(ix (x19.toNat:Int))+1=0
  ·
   refine go [.v 4 1 (qeT _ _ c26)] ?_
   refine yN 4<|g0<|up<|g0 ?_
   have h27:=h24.b.b.t4
   have he_:i=(gl l):=(gl_stop om hx20 (by unfold cd;omega))
   exact en (.tuple #[]) [] ⟨⟨_,rfl⟩,.inl (he_▸h27)⟩
  have h28:=h24.b.b.t4
  refine go [.v 4 1 (qeF _ _ c26)] ?_
  refine yY 4 (args:= [Value.int IntKind.i64 ((ix (x19.toNat:Int))+1)]) (xa:=(fun i=> [Value.int IntKind.i64 (cd (l.getD i 0))]) i) (by show [Value.int IntKind.i64 (cd (l.getD i 0))]=_;rw[getD_some hx20];rfl) (hY i (gl_go om hx20 (by unfold cd;omega)) _ [R] h28) ?_ ?_
  ·
   intro w29 h30
   have h31:sat g w29 [J_ (i+1),Cl b [.string (St l)] 9,Old wo,R]:=h30
   have hlt32:=((gl_go om hx20 (by unfold cd;omega)):i<(gl l))
   refine go [.v 5 0 (oIr ((i:Int)+1))] ?_
   exact enN (l.length-(i+1)) ⟨(i+1),_,rfl,om,(lvF [.k 0 (.func (Fn.yield k_) #[] #[]),.k 1 (pV b),.k 6 (iV (l.length:Int)),.o 7 (oJ .i64 ((i:Int)+1) (((i+1):Nat):Int))]),h31⟩
  intro w33 h34
  have h35:sat g w33 [E_ i,R]:=h34
  have hlt36:=((gl_go om hx20 (by unfold cd;omega)):i<(gl l))
  refine g0<|up<|g0 ?_
  exact en (.tuple #[]) [] ⟨⟨_,rfl⟩,.inr ⟨i,om,h35⟩⟩
 refine go [.v 1 0 (oF _ c16)]<|up<|g0 ?_
 have he_:i=(gl l):=(by omega)
 exact en (.tuple #[]) [] ⟨⟨_,rfl⟩,.inl (he_▸h15)⟩
theorem parse_ht(wo:World)(hg:Lett wo)(l:List UInt8)(hl:l.length≤1099511627776):HT prog 161 [.string (St l)] [Old wo] (fun v K=> ∃p c,v= .tuple #[.slice p (prs l).1.length c,iV (prs l).2]∧K= [Sl 3 1 p (prs l).1.length c (fl eI (prs l).1),Old wo]):=by
 have hgl:=gl_le l
 refine hiS func161 ntmps161 fun g w0 R h0=>go [.v 1 1 (⟨iV ((St l).size:Int),iV (l.length:Int),(ov_int (st_len _))⟩),.s 1 2] ?_
 by_cases c10:(l.length:Int)>2000
 ·
  refine go [.v 1 2 (oT _ c10)] ?_
  have h11:sat g _ (Sl 3 1 none 0 0 (fl eI [])::_):=sl_nil 3 1 h0
  exact en (.tuple #[.slice none 0 0,iV 11]) [] ⟨_,[Sl 3 1 none 0 0 (fl eI []),Old wo],rfl,⟨none,0,(by rw[(prs_many om)];rfl),(by rw[(prs_many om)];rfl)⟩,h11⟩
 refine go [.v 1 2 (oF _ c10)]<|nP 37 [.slice none 0 0] h0 (fun r12 _ h14=> ?_)
 refine g0<|cP call217 (read_ht l) h14 ?_
 rintro v K w16 (⟨b15,rfl,rfl⟩) h17
 have h19:sat g _ (Sl 3 1 none 0 0 (fl eI [])::_):=sl_nil 3 1 (ap1 h17)
 have h20:=h19.b.t5
 refine g0 ?_
 refine rfS (N:=(gl l)) (fun i K=> ∃p:Option Addr,∃c:Nat,K= [Cl r12 [.slice p i c] 37,Sl 3 1 p i c (fl eI ((l.take i).map cd))]) (fun c _ K=>False) call266 (read_it wo hg b15 l om) ⟨none,0,rfl⟩ h20 ?_ ?_ ?_
 ·
  rintro i hi23 lp_ w21 K_ G ⟨p,c,rfl⟩ h22
  have h24:sat g w21 [Cl r12 [.slice p i c] 37,Sl 3 1 p i c (fl eI ((l.take i).map cd)),Cl b15 [.string (St l)] 9,Old wo,G]:=h22
  obtain⟨_,_⟩:=sl_le (sat_sel [1] rfl h24)
  refine go [rd 6 0 0 0 1 h24]<|nG (fun q_=> .slice (some ⟨q_,0,none⟩) 1 1) 3 [iV (cd (l.getD i 0))] h24 (fun r25 _ h27=>⟨kd [],?_⟩)
  have h28:=h27.b.t6
  refine actG ?_
  refine aA 15 1 (Ot 12) (Ot 14) (iV 0) p i c 1 1 (⟨r25,0,none⟩) 8 underlying37 h28 (fl eI [(cd (l.getD i 0))]) rfl (cell1 h28 rfl) (fl_one eI_ok _) (i+1) ?_
  intro p29 cap30 w31 h32
  have h33:sat g _ (Sl 3 1 p29 (i+1) cap30 (fl eI (((l.take i).map cd)++ [(cd (l.getD i 0))]))::_):=sJ h32
  obtain⟨hn34,hn35⟩:=sl_le h33
  refine nxA<|sA [.slice p29 (i+1) cap30] h33.b.t6 fun w37 h38=>g0 ?_
  obtain⟨x39,hx40⟩:=gX l i om
  have h41:=h38.a.t6
  have h42:sat g w37 [Sl 3 1 p29 (i+1) cap30 (fl eI ((l.take (i+1)).map cd)),Cl r12 [.slice p29 (i+1) cap30] 37,Cl r25 [iV (cd (l.getD i 0))] 3,Cl b15 [.string (St l)] 9,Old wo,G]:=(show (((l.take i).map cd)++ [(cd (l.getD i 0))])=((l.take (i+1)).map cd) from (tk_eq hx40 (congrArg cd (getD_some hx40).symm)))▸h41
  exact rbN ⟨p29,cap30,rfl⟩ (tk5 h42.e.e.e.c.d.t6)
 ·
  rintro D45 w46 K_ ⟨p,c,rfl⟩ h47
  have h48:sat g w46 [pt D45 (Obj.deferred (some [])),Cl r12 [.slice p (gl l) c] 37,Sl 3 1 p (gl l) c (fl eI ((l.take (gl l)).map cd)),Cl b15 [.string (St l)] 9,Old wo,R]:=h47
  refine go [rd 7 0 1 0 1 h48,.v 7 3 (⟨iV ((St l).size:Int),iV (l.length:Int),(ov_int (st_len _))⟩),.s 7 4] ?_
  by_cases c49:((gl l:Nat):Int)<(l.length:Int)
  ·
   refine go [.v 7 4 (oT _ c49)] ?_
   have h50:sat g _ (Sl 3 1 none 0 0 (fl eI [])::_):=sl_nil 3 1 h48
   refine enD (.tuple #[.slice none 0 0,iV 9]) h50.a.t7 (fun _ _=> []) (fun _ h52=> ?_) [] []
   exact⟨_,[Sl 3 1 none 0 0 (fl eI []),Old wo],rfl,⟨none,0,(by rw[(prs_form om om)];rfl),(by rw[(prs_form om om)];rfl)⟩,(tk3 (sf2 (sf2 (sf6 h52.e.b.t7))))⟩
  refine go [.v 7 4 (oF _ c49),rd 9 0 1 0 1 h48] ?_
  have h56:=h48.b.t6
  have h57:sat g w46 [Sl 3 1 p l.length c (fl eI ((l.take (gl l)).map cd)),pt D45 (Obj.deferred (some [])),Cl r12 [.slice p (gl l) c] 37,Cl b15 [.string (St l)] 9,Old wo,R]:=(show (gl l)=l.length from om)▸h56
  have h58:sat g w46 [Sl 3 1 p l.length c (fl eI (l.map cd)),pt D45 (Obj.deferred (some [])),Cl r12 [.slice p (gl l) c] 37,Cl b15 [.string (St l)] 9,Old wo,R]:=(show ((l.take (gl l)).map cd)=(l.map cd) from (tk_all om))▸h57
  have h59:sat g w46 [Sl 3 1 p ((l.map cd).length) c (fl eI (l.map cd)),pt D45 (Obj.deferred (some [])),Cl r12 [.slice p (gl l) c] 37,Cl b15 [.string (St l)] 9,Old wo,R]:=(show l.length=(l.map cd).length from (List.length_map _).symm)▸h58
  refine enD (.tuple #[.slice p (gl l) c,iV 0]) h59.a.t6 (fun _ _=> []) (fun _ h61=> ?_) [] []
  exact⟨_,[Sl 3 1 p ((l.map cd).length) c (fl eI (l.map cd)),Old wo],rfl,⟨p,c,(by rw[(prs_ok om om),show (gl l)=l.length from by omega,←List.length_map cd]<;>rfl),(by rw[(prs_ok om om)])⟩,(tk3 (sf2 (sf2 (sf5 h61.d.b.t6))))⟩
 intro _ _ _ _ _ _ hf_;exact hf_.elim
theorem rparse_ht(l:List UInt8)(hl:l.length≤1099511627776):HT prog 164 [.string (St l)] [] (fun v K=> ∃p c,v= .tuple #[.slice p (prs l).1.length c,iV (prs l).2]∧K= [Sl 3 1 p (prs l).1.length c (fl eI (prs l).1)]):=by
 have hgl:=gl_le l
 refine hiS func164 ntmps164 fun g w0 R h0=>go [.v 1 1 (⟨iV ((St l).size:Int),iV (l.length:Int),(ov_int (st_len _))⟩),.s 1 2] ?_
 by_cases c10:(l.length:Int)>2000
 ·
  refine go [.v 1 2 (oT _ c10)] ?_
  have h11:sat g _ (Sl 3 1 none 0 0 (fl eI [])::_):=sl_nil 3 1 h0
  exact en (.tuple #[.slice none 0 0,iV 11]) [] ⟨_,[Sl 3 1 none 0 0 (fl eI [])],rfl,⟨none,0,(by rw[(prs_many om)];rfl),(by rw[(prs_many om)];rfl)⟩,h11⟩
 refine go [.v 1 2 (oF _ c10)] ?_
 have h12:sat g _ (Sl 3 1 none 0 0 (fl eI [])::_):=sl_nil 3 1 h0
 refine lpS (fun mz_ a w=> ∃i:Nat,∃p:Option Addr,∃c:Nat,∃lr:Fr,mz_=l.length-i∧(i≤gl l)∧a=mk 34 (([(0,.string (St l)),(4,.slice p i c),(5,iV (i:Int))]:Fr)++lr)∧sat g w [Sl 3 1 p i c (fl eI ((l.take i).map cd)),R]) (l.length-0) ⟨0,none,0,_,rfl,(Nat.zero_le _),(lvF [.k 0 (.string (St l)),.k 4 (.slice none 0 0),.o 5 (oJ .i64 0 (0:Int))]),h12⟩ ?_
 rintro m14 a15 w16 ⟨i,p,c,lr13,rfl,hi,rfl,h17⟩
 refine ga ?_
 obtain⟨_,_⟩:=sl_le h17
 refine go [.v 5 2 (⟨iV ((St l).size:Int),iV (l.length:Int),(ov_int (st_len _))⟩),.s 5 3] ?_
 by_cases c18:(i:Int)<(l.length:Int)
 ·
  obtain⟨x19,hx20⟩:=gX l i om
  have hb21:=u8_lt x19
  refine go [.v 5 3 (oT _ c18),.s 7 2]<|lwP (yV (x19.toNat:Int)) (law_idxStr (x:=Ot 15) (i:=Ot 16) (k:= .i64) (s:=l) (z:=(i:Int)) (b:=x19) kr underlying9 kr kr i om hx20 _)<|go [.s 9 0] ?_
  by_cases c22:(x19.toNat:Int)=111
  ·
   refine go [.v 9 0 (qeT _ _ c22)]<|nG (fun q_=> .slice (some ⟨q_,0,none⟩) 1 1) 3 [iV 1] h17 (fun r23 _ h25=>⟨kd [],?_⟩)
   have h26:=h25.a.t3
   refine actG ?_
   refine aA 22 1 (Ot 20) (Ot 21) (iV 0) p i c 1 1 (⟨r23,0,none⟩) 8 underlying37 h26 (fl eI [1]) rfl (cell1 h26 rfl) (fl_one eI_ok _) (i+1) ?_
   intro p27 cap28 w29 h30
   have h31:sat g _ (Sl 3 1 p27 (i+1) cap28 (fl eI (((l.take i).map cd)++ [1]))::_):=sJ h30
   obtain⟨hn32,hn33⟩:=sl_le h31
   refine nxA<|go [.v 6 1 (oIr ((i:Int)+1))] ?_
   refine enL ?_
   have hc_:=cd1 (x:=x19) om
   have hg_:=gl_go om hx20 om
   have h34:sat g w29 [Sl 3 1 p27 (i+1) cap28 (fl eI ((l.take (i+1)).map cd)),Cl r23 [iV 1] 3,R]:=(show (((l.take i).map cd)++ [1])=((l.take (i+1)).map cd) from (tk_eq hx20 hc_))▸h31
   have h36:=tk2 h34.b.a.t3
   change ∃n',n'<_∧_
   refine⟨(l.length-(i+1)),by omega,(i+1),p27,cap28,_,rfl,om,(lvF [.k 0 (.string (St l)),.k 4 (.slice p27 (i+1) cap28),.o 5 (oJ .i64 ((i:Int)+1) (((i+1):Nat):Int))]),h36⟩
  refine go [.v 9 0 (qeF _ _ c22),.s 11 0] ?_
  by_cases c37:(x19.toNat:Int)=108
  ·
   refine go [.v 11 0 (qeT _ _ c37)]<|nG (fun q_=> .slice (some ⟨q_,0,none⟩) 1 1) 3 [iV 2] h17 (fun r38 _ h40=>⟨kd [],?_⟩)
   have h41:=h40.a.t3
   refine actG ?_
   refine aA 27 1 (Ot 25) (Ot 26) (iV 0) p i c 1 1 (⟨r38,0,none⟩) 8 underlying37 h41 (fl eI [2]) rfl (cell1 h41 rfl) (fl_one eI_ok _) (i+1) ?_
   intro p42 cap43 w44 h45
   have h46:sat g _ (Sl 3 1 p42 (i+1) cap43 (fl eI (((l.take i).map cd)++ [2]))::_):=sJ h45
   obtain⟨hn47,hn48⟩:=sl_le h46
   refine nxA<|go [.v 6 1 (oIr ((i:Int)+1))] ?_
   refine enL ?_
   have hc_:=cd2 (x:=x19) om
   have hg_:=gl_go om hx20 om
   have h49:sat g w44 [Sl 3 1 p42 (i+1) cap43 (fl eI ((l.take (i+1)).map cd)),Cl r38 [iV 2] 3,R]:=(show (((l.take i).map cd)++ [2])=((l.take (i+1)).map cd) from (tk_eq hx20 hc_))▸h46
   have h51:=tk2 h49.b.a.t3
   change ∃n',n'<_∧_
   refine⟨(l.length-(i+1)),by omega,(i+1),p42,cap43,_,rfl,om,(lvF [.k 0 (.string (St l)),.k 4 (.slice p42 (i+1) cap43),.o 5 (oJ .i64 ((i:Int)+1) (((i+1):Nat):Int))]),h51⟩
  refine go [.v 11 0 (qeF _ _ c37),.s 13 0] ?_
  by_cases c52:(x19.toNat:Int)=102
  ·
   refine go [.v 13 0 (qeT _ _ c52)]<|nG (fun q_=> .slice (some ⟨q_,0,none⟩) 1 1) 3 [iV 3] h17 (fun r53 _ h55=>⟨kd [],?_⟩)
   have h56:=h55.a.t3
   refine actG ?_
   refine aA 32 1 (Ot 30) (Ot 31) (iV 0) p i c 1 1 (⟨r53,0,none⟩) 8 underlying37 h56 (fl eI [3]) rfl (cell1 h56 rfl) (fl_one eI_ok _) (i+1) ?_
   intro p57 cap58 w59 h60
   have h61:sat g _ (Sl 3 1 p57 (i+1) cap58 (fl eI (((l.take i).map cd)++ [3]))::_):=sJ h60
   obtain⟨hn62,hn63⟩:=sl_le h61
   refine nxA<|go [.v 6 1 (oIr ((i:Int)+1))] ?_
   refine enL ?_
   have hc_:=cd3 (x:=x19) om
   have hg_:=gl_go om hx20 om
   have h64:sat g w59 [Sl 3 1 p57 (i+1) cap58 (fl eI ((l.take (i+1)).map cd)),Cl r53 [iV 3] 3,R]:=(show (((l.take i).map cd)++ [3])=((l.take (i+1)).map cd) from (tk_eq hx20 hc_))▸h61
   have h66:=tk2 h64.b.a.t3
   change ∃n',n'<_∧_
   refine⟨(l.length-(i+1)),by omega,(i+1),p57,cap58,_,rfl,om,(lvF [.k 0 (.string (St l)),.k 4 (.slice p57 (i+1) cap58),.o 5 (oJ .i64 ((i:Int)+1) (((i+1):Nat):Int))]),h66⟩
  refine go [.v 13 0 (qeF _ _ c52)]<|up<|g0 ?_
  have hst:=gl_stop om hx20 (cd0 om om om)
  have hlt:=(List.getElem?_eq_some_iff.1 hx20).1
  have h67:sat g _ (Sl 3 1 none 0 0 (fl eI [])::_):=sl_nil 3 1 h17
  exact en (.tuple #[.slice none 0 0,iV 9]) [] ⟨_,[Sl 3 1 none 0 0 (fl eI [])],rfl,⟨none,0,(by rw[(prs_form om om)];rfl),(by rw[(prs_form om om)];rfl)⟩,h67.B.t2⟩
 refine go [.v 5 3 (oF _ c18)]<|up<|g0 ?_
 have h69:sat g w16 [Sl 3 1 p l.length c (fl eI ((l.take i).map cd)),R]:=(show i=l.length from om)▸h17
 have h70:sat g w16 [Sl 3 1 p l.length c (fl eI (l.map cd)),R]:=(show ((l.take i).map cd)=(l.map cd) from (tk_all om))▸h69
 have h71:sat g w16 [Sl 3 1 p ((l.map cd).length) c (fl eI (l.map cd)),R]:=(show l.length=(l.map cd).length from (List.length_map _).symm)▸h70
 exact en (.tuple #[.slice p i c,iV 0]) [] ⟨_,[Sl 3 1 p ((l.map cd).length) c (fl eI (l.map cd))],rfl,⟨p,c,(by rw[(prs_ok om om),show i=l.length from by omega,←List.length_map cd]<;>rfl),(by rw[(prs_ok om om)])⟩,h71⟩
theorem valid_ht(b:Nat)(v0:Value):HQ 160 [pV b] [Cl b [.bool true,v0] 239] (.bool true) [Cl b [.bool true,v0] 239]:=by
 refine hiS func160 ntmps160 fun g w0 R h0=>go [rd 1 6 0 0 1 h0] ?_
 exact enR _ [] h0
theorem rvalid_ht(b:Nat)(v0:Value):HQ 163 [pV b] [Cl b [.bool true,v0] 242] (.bool true) [Cl b [.bool true,v0] 242]:=by
 refine hiS func163 ntmps163 fun g w0 R h0=>go [rd 1 6 0 0 1 h0] ?_
 exact enR _ [] h0
theorem grow_ht(k:Nat)(z:Int)(hz:z=(k:Int))(hk:k≤1099511627776):HT prog 218 [.slice none 0 0,iV z] [] (fun v K=> ∃p c,v= .slice p 0 c∧K= [Sl 3 1 p 0 c (fl eI [])]):=by
 refine hiS func218 ntmps218 fun g w0 R h0=>go [.v 1 1 (oF (z<0)),.v 3 6 (oI (z-0) z),.s 4 1] ?_
 by_cases c10:z>0
 ·
  refine go [.v 4 1 (oT _ c10),.s 5 3]<|lwP (.slice none 0 0) (law_sliceTo (x:=Ot 17) (y:=Ot 19) (p:=none) (m:=0) (c:=0) (z:=0) kr underlying37 kr kr kr 0 om om _)<|g0 ?_
  refine actG ?_
  refine an_append_room (kx:= .i64) (d:=22) (sz:=1) (by_:=8) (s:=Ot 20) (x:=Ot 21) (z:=iV 0) (zi:=z) kr kr rfl underlying37 underlying3 kr rfl dc k om om kr kr h0 om om ?_
  intro r11 cap12 w13 _ _ h14
  obtain⟨p17,hp18⟩: ∃p:Option Addr,p=some ⟨r11,0,none⟩:=⟨_,rfl⟩
  have h19:sat g w13 [Sl 3 1 p17 0 cap12 (fl eI []),R]:=by rw[hp18];exact h14
  rw[←hp18]
  refine nxA<|go [.s 5 8]<|lwP (.slice p17 0 cap12) (law_sliceTo (x:=Ot 22) (y:=Ot 24) (p:=p17) (m:=k) (c:=cap12) (z:=0) kr underlying37 kr kr kr 0 om om _)<|g0 ?_
  exact en (.slice p17 0 cap12) [] ⟨_,_,rfl,⟨p17,cap12,rfl,rfl⟩,h19⟩
 refine go [.v 4 1 (oF _ c10)] ?_
 have h20:sat g _ (Sl 3 1 none 0 0 (fl eI [])::_):=sl_nil 3 1 h0
 exact en (.slice none 0 0) [] ⟨_,_,rfl,⟨none,0,rfl,rfl⟩,h20⟩
theorem clone_nil(c:Nat)(X:Assn):HT prog 126 [.slice none 0 c] [X] (fun v K=> ∃p c,v= .slice p 0 c∧K= [Sl 3 1 p 0 c (fl eI []),X]):=by
 refine hiS func126 ntmps126 fun g w0 R h0=>g0 ?_
 have h10:sat g _ (Sl 3 1 none 0 0 (fl eI [])::_):=sl_nil 3 1 h0
 exact en (.slice none 0 0) [] ⟨_,_,rfl,⟨none,0,rfl,rfl⟩,h10⟩
theorem clone_none(n c:Nat)(L:List Int)(X:Assn)(hX:Gv X none n (fl eI L))(hL:L.length=n):HT prog 126 [Value.slice none n c] [X] (fun v K=> ∃p c,v=Value.slice p n c∧K= [Sl 3 1 p n c (fl eI L),X]):=by
 have hn0:n=0∨0<n:=by omega
 rcases hn0 with hn0|hn0
 · have hl0:L= []:=List.eq_nil_of_length_eq_zero om
   subst hl0
   subst hn0
   exact clone_nil c X
 · intro g w F hs
   obtain⟨b,off,h1⟩:=gv_ptr (j:=0) hs rfl hX hn0
   cases h1
theorem clone_some(a:Addr)(p:Option Addr)(hp:p=some a)(n c:Nat)(L:List Int)(X:Assn)(hX:Gv X p n (fl eI L))(hL:L.length=n)(hn:n≤1099511627776):HT prog 126 [.slice p n c] [X] (fun v K=> ∃p c,v= .slice p n c∧K= [Sl 3 1 p n c (fl eI L),X]):=by
 refine hiS func126 ntmps126 fun g w0 R h0=>go [.s 1 1]<|lwP (.bool false) (law_sliceSome (x:=Ot 3) (y:=(Operand.const (.slice none 0 0))) (m:=n) (c:=c) kr underlying37 kr hp kr _)<|g0<|nG (fun q_=> .slice (some ⟨q_,0,none⟩) 0 0) 3 [] h0 (fun r10 w11 h12=>⟨kd [],?_⟩)
 have h13:sat g _ (Sl 3 1 (some ⟨r10,0,none⟩) 0 0 (fl eI [])::_):=sl_of_cl h12 rfl om
 refine g0 ?_
 refine actG ?_
 refine aG 7 1 (Ot 5) (Ot 6) (iV 0) (some ⟨r10,0,none⟩) p 0 0 n c 8 underlying37 h13 1 rfl (fl eI L) hX (by rw[fl_len eI_ok,hL]) (fl_one eI_ok _) n ?_
 intro p14 cap15 w16 h17
 have h18:sat g _ (Sl 3 1 p14 n cap15 (fl eI L)::_):=sI h17
 obtain⟨hn19,hn20⟩:=sl_le h18
 refine nxA<|g0 ?_
 exact en (.slice p14 n cap15) [] ⟨_,_,rfl,⟨p14,cap15,rfl,rfl⟩,h18⟩
theorem clone_ht(p:Option Addr)(n c:Nat)(L:List Int)(X:Assn)(hX:Gv X p n (fl eI L))(hL:L.length=n)(hn:n≤1099511627776):HT prog 126 [Value.slice p n c] [X] (fun v K=> ∃p c,v=Value.slice p n c∧K= [Sl 3 1 p n c (fl eI L),X]):=by
 cases p with
 |none=>exact clone_none n c L X hX hL
 |some a=>exact clone_some a _ rfl n c L X hX hL hn
theorem concat_ht(r:Nat)(p q:Option Addr)(n m c d:Nat)(L M:List Int)(X Y:Assn)(hX:Gv X p n (fl eI L))(hY:Gv Y q m (fl eI M))(hlL:L.length=n)(hlM:M.length=m)(hb:n+m≤1099511627776):HT prog 162 [.slice (some ⟨r,0,none⟩) 2 2] [Cl r [.slice p n c,.slice q m d] 37,X,Y] (fun v K=> ∃p2 c2,v= .slice p2 (n+m) c2∧K= [Sl 3 1 p2 (n+m) c2 (fl eI (L++M)),Cl r [.slice p n c,.slice q m d] 37,X,Y]):=by
 refine hiS func162 ntmps162 fun g w0 R h0=>go [.v 2 1 (oJ .i64 (2:Int) 2)]<|unS 2<|go [.s 4 0]<|lwP (pV r) (liS (Ot 9) (Ot 11) r 0 0 2 2 underlying312 1 0 0)<|go [rd 4 1 0 0 1 h0,.v 5 3 (oI (0+(n:Int)) (n:Int)),.v 6 1 (oF ((n:Int)<0))]<|unN<|go [.s 4 0]<|lwP (.pointer (some ⟨r,1,none⟩)) (liS (Ot 9) (Ot 11) r 0 1 2 2 underlying312 1 1 1)<|go [rd 4 1 0 1 1 h0,.v 5 3 (oIr ((n:Int)+(m:Int))),.v 6 1 (oF ((n:Int)+(m:Int)<0))]<|unN<|g0<|up ?_
 refine g0<|cP call218 (grow_ht (n+m) ((n:Int)+(m:Int)) om om) h0 ?_
 rintro v K _ (⟨p10,cap11,rfl,rfl⟩) h13
 have h14:=ap1 h13
 obtain⟨hn15,hn16⟩:=sl_le h14
 refine go [.v 10 1 (oJ .i64 (2:Int) 2)]<|unS 2<|go [.s 12 0]<|lwP (pV r) (liS (Ot 25) (Ot 27) r 0 0 2 2 underlying312 1 0 0)<|go [rd 12 1 1 0 1 h14] ?_
 refine actG ?_
 refine aG 33 1 (Ot 31) (Ot 32) (iV 0) p10 p 0 cap11 n c 8 underlying37 h14 2 rfl (fl eI L) hX (by rw[fl_len eI_ok,hlL]) (fl_one eI_ok _) n ?_
 intro p17 cap18 w19 h20
 have h21:sat g _ (Sl 3 1 p17 n cap18 (fl eI L)::_):=sI h20
 obtain⟨hn22,hn23⟩:=sl_le h21
 refine nxA<|g0<|unN<|go [.s 12 0]<|lwP (.pointer (some ⟨r,1,none⟩)) (liS (Ot 25) (Ot 27) r 0 1 2 2 underlying312 1 1 1)<|go [rd 12 1 1 1 1 h21] ?_
 refine actG ?_
 refine aG 33 1 (Ot 31) (Ot 32) (iV 0) p17 q n cap18 m d 8 underlying37 h21 3 rfl (fl eI M) hY (by rw[fl_len eI_ok,hlM]) (fl_one eI_ok _) (n+m) ?_
 intro p24 cap25 w26 h27
 have h28:sat g _ (Sl 3 1 p24 (n+m) cap25 (fl eI (L++M))::_):=sJ h27
 obtain⟨hn29,hn30⟩:=sl_le h28
 refine nxA<|g0<|unN<|g0<|up<|g0 ?_
 exact en (.slice p24 (n+m) cap25) [] ⟨_,_,rfl,⟨p24,cap25,(by rw[show n+m=n+m from by omega]),rfl⟩,h28⟩
theorem new_ht:HT prog 101 [] [] (fun v K=> ∃b,v=pV b∧K= [Sr 239 b []]):=by
 refine hiS func101 ntmps101 fun g w0 R h0=>g0<|nP 239 [.bool true,.slice none 0 0] h0 (fun r10 w11 h12=> ?_)
 refine g0 ?_
 have h13:sat g _ (Vw 3 1 none 0 0 (fl eI [])::_):=vw_nil 3 1 h12
 have h15:sat g _ (Sr 239 r10 []::_):=sr_close (p:=none) (c:=0) (by simp) h13.a.t3
 exact en (pV r10) [] ⟨_,_,rfl,⟨r10,rfl,rfl⟩,h15⟩
theorem add_ht(wo:World)(hg:Lett wo)(b:Nat)(L:List Int)(l:List UInt8)(hl:l.length≤1099511627776):HQ 81 [pV b,.string (St l)] [Sr 239 b L,Old wo] (iV (addE L l)) [Sr 239 b (addL L l),Old wo]:=by
 refine hiS func81 ntmps81 fun g w0 R h0=> ?_
 obtain⟨hl13,p10,cap11,h12⟩:=sr_open h0
 have h14:=h12.a.t4
 obtain⟨hn15,hn16⟩:=vw_le h14
 have h17:=h14.a.t4
 refine g0<|cl1 call160 (valid_ht b _) h17 fun _ h19=> ?_
 have h22:=h19.b.t4
 refine g0<|cP call161 (parse_ht wo hg l om) h22 ?_
 rintro v K w23 (⟨p20,cap21,rfl,rfl⟩) h24
 have h25:=ap2 h24
 obtain⟨hn26,hn27⟩:=sl_le h25
 have hq28:=prs_len l
 refine go [.s 4 1] ?_
 by_cases c29:(prs l).2=0
 ·
  refine go [.v 4 1 (qnF ((prs l).2) 0),rd 6 3 2 1 1 h25,.v 6 7 (oIr ((L.length:Int)+((((prs l).1).length:Nat):Int))),.s 6 8] ?_
  by_cases c30:(L.length:Int)+((((prs l).1).length:Nat):Int)>2000
  ·
   refine go [.v 6 8 (oT _ c30)] ?_
   have h32:sat g _ (Sr 239 b L::_):=sr_close (p:=p10) (c:=cap11) om h25.c.c.t5
   exact en (iV 11) [] ⟨_,[Sr 239 b L,Old wo],rfl,⟨by rw[(add_many om om).1],by rw[(add_many om om).2]⟩,(tk3 (sf2 (sf2 (sf3 h32.b.a.t4))))⟩
  refine go [.v 6 8 (oF _ c30),rd 8 4 2 1 1 h25]<|nG (fun q_=> .slice (some ⟨q_,0,none⟩) 2 2) 37 [.slice p10 L.length cap11,.slice p20 (((prs l).1).length) cap21] h25 (fun r35 _ h37=>⟨kd [],?_⟩)
  refine cP call162 (concat_ht r35 p10 p20 L.length (((prs l).1).length) cap11 cap21 L ((prs l).1) (Vw 3 1 p10 L.length cap11 (fl eI L)) (Sl 3 1 p20 (((prs l).1).length) cap21 (fl eI ((prs l).1))) (gv_vw _ _ _) (gv_sl _ _ _) rfl rfl om) h37.d.a.t6 ?_
  rintro v K _ (⟨p38,cap39,rfl,rfl⟩) h42
  have h43:=ap4 h42
  obtain⟨hn44,hn45⟩:=sl_le h43
  have h46:=h43.e.t7
  refine g0<|sP [(1,.slice p38 (L.length+(((prs l).1).length)) cap39)] [.bool true,.slice p38 (L.length+(((prs l).1).length)) cap39] h46 fun w47 h48=>g0 ?_
  have h49:sat g w47 [Cl b [.bool true,.slice p38 ((L++(prs l).1).length) cap39] 239,Sl 3 1 p38 ((L++(prs l).1).length) cap39 (fl eI (L++((prs l).1))),Cl r35 [.slice p10 L.length cap11,.slice p20 (((prs l).1).length) cap21] 37,Vw 3 1 p10 L.length cap11 (fl eI L),Sl 3 1 p20 (((prs l).1).length) cap21 (fl eI ((prs l).1)),Old wo,R]:=(show L.length+(((prs l).1).length)=((L++(prs l).1).length) from by rw[List.length_append])▸h48
  have h51:sat g _ (Vw 3 1 p38 ((L++(prs l).1).length) cap39 (fl eI (L++((prs l).1)))::_):=vw_sl h49.a.t7
  have h53:sat g _ (Sr 239 b (L++((prs l).1))::_):=sr_close (p:=p38) (c:=cap39) (by rw[List.length_append];omega) h51.a.t7
  exact en (iV 0) [] ⟨_,[Sr 239 b (L++((prs l).1)),Old wo],rfl,⟨by rw[(add_ok om om).1],by rw[(add_ok om om).2]⟩,(tk3 (sf2 (sf2 (sf5 h53.d.a.t6))))⟩
 refine go [.v 4 1 (qnT ((prs l).2) 0)] ?_
 have h57:sat g _ (Sr 239 b L::_):=sr_close (p:=p10) (c:=cap11) om h25.c.c.t5
 exact en (iV ((prs l).2)) [] ⟨_,[Sr 239 b L,Old wo],rfl,⟨by rw[(add_err om).1],by rw[(add_err om).2]⟩,(tk3 (sf2 (sf2 (sf3 h57.b.a.t4))))⟩
theorem next_ht(b:Nat)(L:List Int):HQ 137 [pV b] [Sr 239 b L] (iV (L.headD 1)) [Sr 239 b L.tail]:=by
 refine hiS func137 ntmps137 fun g w0 R h0=> ?_
 obtain⟨hl13,p10,cap11,h12⟩:=sr_open h0
 have h14:=h12.a.t3
 obtain⟨hn15,hn16⟩:=vw_le h14
 have h17:=h14.a.t3
 refine g0<|cl1 call160 (valid_ht b _) h17 fun w18 h19=>go [rd 3 3 0 1 1 h19,.s 3 5] ?_
 by_cases c20:(L.length:Int)=0
 ·
  refine go [.v 3 5 (qeT _ _ c20)] ?_
  have hnil_:L= []:=List.eq_nil_of_length_eq_zero om
  have h21:sat g _ (Sr 239 b L::_):=sr_close (p:=p10) (c:=cap11) om h19
  exact en (iV 1) [] ⟨_,[Sr 239 b L],rfl,⟨by rw[hnil_];rfl,by rw[hnil_];rfl⟩,h21⟩
 obtain⟨b22,off24,hp23⟩:=gv_ptr (j:=1) h19 rfl (gv_vw _ _ _) om
 refine go [.v 3 5 (qeF _ _ c20),rd 5 3 0 1 1 h19,.s 5 4]<|lwP (.pointer (some ⟨b22,off24,none⟩)) (liP (Ot 18) (Operand.const (iV 0)) p10 b22 off24 0 L.length cap11 underlying37 1 0 hp23 off24) ?_
 obtain⟨x25,hx26⟩:=gX L 0 om
 refine go [.r 5 5 b22 off24 [iV x25] ⟨gv_cell (j:=1) h19 rfl (gv_vw _ _ _) hp23 (fl_get eI_ok (j:=0) (v:=iV x25) hx26 rfl) off24 om,trivial⟩,rd 6 4 0 1 1 h19,.s 6 5]<|lwP (.slice (some ⟨b22,(if cap11=1 then off24 else off24+1),none⟩) (L.length-1) (cap11-1)) (law_sliceSlP (p:=p10) (x:=Ot 25) (lo:=(some (Operand.const (iV 1)))) (hi:=none) (b:=b22) (off:=off24) (m:=L.length) (c:=cap11) kr underlying37 1 kr 1 (L.length:Int) 1 L.length kr hp23 (show fe _ _ (Operand.const (iV 1))=_ from by kernel_rfl) rfl om om om om (if cap11=1 then off24 else off24+1) (ite_r om) (L.length-1) (cap11-1) om om _)<|g0<|sP [(1,.slice (some ⟨b22,(if cap11=1 then off24 else off24+1),none⟩) (L.length-1) (cap11-1))] [.bool true,.slice (some ⟨b22,(if cap11=1 then off24 else off24+1),none⟩) (L.length-1) (cap11-1)] h19 fun w27 h28=>g0 ?_
 have h29:=h28.a.t3
 obtain⟨q30,hq31⟩: ∃q:Option Addr,q=some ⟨b22,(if cap11=1 then off24 else off24+1),none⟩:=⟨_,rfl⟩
 have h32:sat g w27 [Vw 3 1 q30 L.tail.length (cap11-1) (fl eI L.tail),Cl b [.bool true,.slice q30 L.tail.length (cap11-1)] 239,R]:=by
  have h_:=sr_next hp23 hq31 om (by first|rfl |(split<;>omega)) h29
  rw[←hq31,←List.length_tail] at h_
  exact h_
 have h34:sat g _ (Sr 239 b L.tail::_):=sr_close (p:=q30) (c:=(cap11-1)) (by rw[List.length_tail];omega) h32.a.t3
 exact en (iV x25) [] ⟨_,_,rfl,⟨congrArg (Value.int .i64) (hd_tl hx26).symm,rfl⟩,h34⟩
theorem copy_ht(b:Nat)(L:List Int):HT prog 113 [pV b] [Sr 239 b L] (fun v K=> ∃b2,v=pV b2∧K= [Sr 239 b2 L,Sr 239 b L]):=by
 refine hiS func113 ntmps113 fun g w0 R h0=> ?_
 obtain⟨hl13,p10,cap11,h12⟩:=sr_open h0
 have h14:=h12.a.t3
 obtain⟨hn15,hn16⟩:=vw_le h14
 have h17:=h14.a.t3
 refine g0<|cl1 call160 (valid_ht b _) h17 fun _ h19=> ?_
 have h22:=h19.a.t3
 refine go [rd 3 3 0 1 1 h19]<|cP call126 (clone_ht p10 L.length cap11 L (Vw 3 1 p10 L.length cap11 (fl eI L)) (gv_vw _ _ _) rfl om) h22 ?_
 rintro v K _ (⟨p20,cap21,rfl,rfl⟩) h24
 have h25:=ap2 h24
 obtain⟨hn26,hn27⟩:=sl_le h25
 refine g0<|nP 239 [.bool true,.slice p20 L.length cap21] h25 (fun r28 w29 h30=> ?_)
 refine g0 ?_
 have h32:sat g _ (Sr 239 b L::_):=sr_close (p:=p10) (c:=cap11) om h30.b.c.t5
 have h34:sat g _ (Vw 3 1 p20 L.length cap21 (fl eI L)::_):=vw_sl h32.b.t4
 have h36:sat g _ (Sr 239 r28 L::_):=sr_close (p:=p20) (c:=cap21) om h34.b.t4
 exact en (pV r28) [] ⟨_,_,rfl,⟨r28,rfl,rfl⟩,h36⟩
theorem rnew_ht:HT prog 133 [] [] (fun v K=> ∃b,v=pV b∧K= [Sr 242 b []]):=by
 refine hiS func133 ntmps133 fun g w0 R h0=>g0<|nP 242 [.bool true,.slice none 0 0] h0 (fun r10 w11 h12=> ?_)
 refine g0 ?_
 have h13:sat g _ (Vw 3 1 none 0 0 (fl eI [])::_):=vw_nil 3 1 h12
 have h15:sat g _ (Sr 242 r10 []::_):=sr_close (p:=none) (c:=0) (by simp) h13.a.t3
 exact en (pV r10) [] ⟨_,_,rfl,⟨r10,rfl,rfl⟩,h15⟩
theorem radd_ht(b:Nat)(L:List Int)(l:List UInt8)(hl:l.length≤1099511627776):HQ 82 [pV b,.string (St l)] [Sr 242 b L] (iV (addE L l)) [Sr 242 b (addL L l)]:=by
 refine hiS func82 ntmps82 fun g w0 R h0=> ?_
 obtain⟨hl13,p10,cap11,h12⟩:=sr_open h0
 have h14:=h12.a.t3
 obtain⟨hn15,hn16⟩:=vw_le h14
 have h17:=h14.a.t3
 refine g0<|cl1 call163 (rvalid_ht b _) h17 fun _ h19=>g0<|cP call164 (rparse_ht l om) h19 ?_
 rintro v K w22 (⟨p20,cap21,rfl,rfl⟩) h23
 have h24:=ap1 h23
 obtain⟨hn25,hn26⟩:=sl_le h24
 have hq27:=prs_len l
 refine go [.s 4 1] ?_
 by_cases c28:(prs l).2=0
 ·
  refine go [.v 4 1 (qnF ((prs l).2) 0),rd 6 3 1 1 1 h24,.v 6 7 (oIr ((L.length:Int)+((((prs l).1).length:Nat):Int))),.s 6 8] ?_
  by_cases c29:(L.length:Int)+((((prs l).1).length:Nat):Int)>2000
  ·
   refine go [.v 6 8 (oT _ c29)] ?_
   have h31:sat g _ (Sr 242 b L::_):=sr_close (p:=p10) (c:=cap11) om h24.b.b.t4
   exact en (iV 11) [] ⟨_,[Sr 242 b L],rfl,⟨by rw[(add_many om om).1],by rw[(add_many om om).2]⟩,h31.B.t2⟩
  refine go [.v 6 8 (oF _ c29)]<|nG (fun q_=> .slice (some ⟨q_,0,none⟩) 0 0) 3 [] h24 (fun r33 w34 h35=>⟨kd [],?_⟩)
  have h36:sat g _ (Sl 3 1 (some ⟨r33,0,none⟩) 0 0 (fl eI [])::_):=sl_of_cl h35 rfl om
  refine go [rd 8 5 2 1 1 h35] ?_
  refine actG ?_
  refine aG 33 1 (Ot 28) (Ot 32) (iV 0) (some ⟨r33,0,none⟩) p10 0 0 L.length cap11 8 underlying37 h36 3 rfl (fl eI L) (gv_vw _ _ _) (fl_len eI_ok _) (fl_one eI_ok _) L.length ?_
  intro p37 cap38 w39 h40
  have h41:sat g _ (Sl 3 1 p37 L.length cap38 (fl eI L)::_):=sI h40
  obtain⟨hn42,hn43⟩:=sl_le h41
  refine nxA<|g0 ?_
  refine actG ?_
  refine aG 35 1 (Ot 33) (Ot 34) (iV 0) p37 p20 L.length cap38 (((prs l).1).length) cap21 8 underlying37 h41 1 rfl (fl eI ((prs l).1)) (gv_sl _ _ _) (fl_len eI_ok _) (fl_one eI_ok _) (L.length+(((prs l).1).length)) ?_
  intro p44 cap45 w46 h47
  have h48:sat g _ (Sl 3 1 p44 (L.length+(((prs l).1).length)) cap45 (fl eI (L++((prs l).1)))::_):=sJ h47
  obtain⟨hn49,hn50⟩:=sl_le h48
  refine nxA ?_
  have h51:=h48.b.t5
  refine g0<|sP [(1,.slice p44 (L.length+(((prs l).1).length)) cap45)] [.bool true,.slice p44 (L.length+(((prs l).1).length)) cap45] h51 fun w52 h53=>g0 ?_
  have h54:sat g w52 [Cl b [.bool true,.slice p44 ((L++(prs l).1).length) cap45] 242,Sl 3 1 p44 ((L++(prs l).1).length) cap45 (fl eI (L++((prs l).1))),Sl 3 1 p20 (((prs l).1).length) cap21 (fl eI ((prs l).1)),Vw 3 1 p10 L.length cap11 (fl eI L),R]:=(show L.length+(((prs l).1).length)=((L++(prs l).1).length) from by rw[List.length_append])▸h53
  have h56:sat g _ (Vw 3 1 p44 ((L++(prs l).1).length) cap45 (fl eI (L++((prs l).1)))::_):=vw_sl h54.a.t5
  have h58:sat g _ (Sr 242 b (L++((prs l).1))::_):=sr_close (p:=p44) (c:=cap45) (by rw[List.length_append];omega) h56.a.t5
  exact en (iV 0) [] ⟨_,[Sr 242 b (L++((prs l).1))],rfl,⟨by rw[(add_ok om om).1],by rw[(add_ok om om).2]⟩,h58.c.a.t2⟩
 refine go [.v 4 1 (qnT ((prs l).2) 0)] ?_
 have h61:sat g _ (Sr 242 b L::_):=sr_close (p:=p10) (c:=cap11) om h24.b.b.t4
 exact en (iV ((prs l).2)) [] ⟨_,[Sr 242 b L],rfl,⟨by rw[(add_err om).1],by rw[(add_err om).2]⟩,h61.B.t2⟩
theorem rnext_ht(b:Nat)(L:List Int):HQ 147 [pV b] [Sr 242 b L] (iV (L.headD 1)) [Sr 242 b L.tail]:=by
 refine hiS func147 ntmps147 fun g w0 R h0=> ?_
 obtain⟨hl13,p10,cap11,h12⟩:=sr_open h0
 have h14:=h12.a.t3
 obtain⟨hn15,hn16⟩:=vw_le h14
 have h17:=h14.a.t3
 refine g0<|cl1 call163 (rvalid_ht b _) h17 fun w18 h19=>go [rd 3 3 0 1 1 h19,.s 3 5] ?_
 by_cases c20:(L.length:Int)=0
 ·
  refine go [.v 3 5 (qeT _ _ c20)] ?_
  have hnil_:L= []:=List.eq_nil_of_length_eq_zero om
  have h21:sat g _ (Sr 242 b L::_):=sr_close (p:=p10) (c:=cap11) om h19
  exact en (iV 1) [] ⟨_,[Sr 242 b L],rfl,⟨by rw[hnil_];rfl,by rw[hnil_];rfl⟩,h21⟩
 obtain⟨b22,off24,hp23⟩:=gv_ptr (j:=1) h19 rfl (gv_vw _ _ _) om
 refine go [.v 3 5 (qeF _ _ c20),rd 5 3 0 1 1 h19,.s 5 4]<|lwP (.pointer (some ⟨b22,off24,none⟩)) (liP (Ot 16) (Operand.const (iV 0)) p10 b22 off24 0 L.length cap11 underlying37 1 0 hp23 off24) ?_
 obtain⟨x25,hx26⟩:=gX L 0 om
 refine go [.r 5 5 b22 off24 [iV x25] ⟨gv_cell (j:=1) h19 rfl (gv_vw _ _ _) hp23 (fl_get eI_ok (j:=0) (v:=iV x25) hx26 rfl) off24 om,trivial⟩,rd 6 4 0 1 1 h19,.s 6 5]<|lwP (.slice (some ⟨b22,(if cap11=1 then off24 else off24+1),none⟩) (L.length-1) (cap11-1)) (law_sliceSlP (p:=p10) (x:=Ot 23) (lo:=(some (Operand.const (iV 1)))) (hi:=none) (b:=b22) (off:=off24) (m:=L.length) (c:=cap11) kr underlying37 1 kr 1 (L.length:Int) 1 L.length kr hp23 (show fe _ _ (Operand.const (iV 1))=_ from by kernel_rfl) rfl om om om om (if cap11=1 then off24 else off24+1) (ite_r om) (L.length-1) (cap11-1) om om _)<|g0<|sP [(1,.slice (some ⟨b22,(if cap11=1 then off24 else off24+1),none⟩) (L.length-1) (cap11-1))] [.bool true,.slice (some ⟨b22,(if cap11=1 then off24 else off24+1),none⟩) (L.length-1) (cap11-1)] h19 fun w27 h28=>g0 ?_
 have h29:=h28.a.t3
 obtain⟨q30,hq31⟩: ∃q:Option Addr,q=some ⟨b22,(if cap11=1 then off24 else off24+1),none⟩:=⟨_,rfl⟩
 have h32:sat g w27 [Vw 3 1 q30 L.tail.length (cap11-1) (fl eI L.tail),Cl b [.bool true,.slice q30 L.tail.length (cap11-1)] 242,R]:=by
  have h_:=sr_next hp23 hq31 om (by first|rfl |(split<;>omega)) h29
  rw[←hq31,←List.length_tail] at h_
  exact h_
 have h34:sat g _ (Sr 242 b L.tail::_):=sr_close (p:=q30) (c:=(cap11-1)) (by rw[List.length_tail];omega) h32.a.t3
 exact en (iV x25) [] ⟨_,_,rfl,⟨congrArg (Value.int .i64) (hd_tl hx26).symm,rfl⟩,h34⟩
theorem rcopy_ht(b:Nat)(L:List Int):HT prog 169 [pV b] [Sr 242 b L] (fun v K=> ∃b2,v=pV b2∧K= [Sr 242 b2 L,Sr 242 b L]):=by
 refine hiS func169 ntmps169 fun g w0 R h0=> ?_
 obtain⟨hl13,p10,cap11,h12⟩:=sr_open h0
 have h14:=h12.a.t3
 obtain⟨hn15,hn16⟩:=vw_le h14
 have h17:=h14.a.t3
 refine g0<|cl1 call163 (rvalid_ht b _) h17 fun _ h19=>g0<|nG (fun q_=> .slice (some ⟨q_,0,none⟩) 0 0) 3 [] h19 (fun r20 w21 h22=>⟨kd [],?_⟩)
 have h23:sat g _ (Sl 3 1 (some ⟨r20,0,none⟩) 0 0 (fl eI [])::_):=sl_of_cl h22 rfl om
 refine go [rd 3 4 1 1 1 h22] ?_
 refine actG ?_
 refine aG 11 1 (Ot 6) (Ot 10) (iV 0) (some ⟨r20,0,none⟩) p10 0 0 L.length cap11 8 underlying37 h23 2 rfl (fl eI L) (gv_vw _ _ _) (fl_len eI_ok _) (fl_one eI_ok _) L.length ?_
 intro p24 cap25 w26 h27
 have h28:sat g _ (Sl 3 1 p24 L.length cap25 (fl eI L)::_):=sI h27
 obtain⟨hn29,hn30⟩:=sl_le h28
 refine nxA<|g0<|nP 242 [.bool true,.slice p24 L.length cap25] h28 (fun r31 w32 h33=> ?_)
 refine g0 ?_
 have h35:sat g _ (Sr 242 b L::_):=sr_close (p:=p10) (c:=cap11) om h33.c.c.t5
 have h37:sat g _ (Vw 3 1 p24 L.length cap25 (fl eI L)::_):=vw_sl h35.b.t4
 have h39:sat g _ (Sr 242 r31 L::_):=sr_close (p:=p24) (c:=cap25) om h37.b.t4
 exact en (pV r31) [] ⟨_,_,rfl,⟨r31,rfl,rfl⟩,h39⟩
structure At where
 at_:Int
 out:Ky
 why:Int
 ans:Int
def eAt(a:At):List Value:= [.int .i64 a.at_,.int .i64 a.out.1,.int .i64 a.out.2.1,.int .u32 a.out.2.2,.int .i64 a.why,.int .i64 a.ans]
theorem eAt_ok:Enc 6 eAt:=⟨fun _=>rfl,fun x v hv=>by simp[eAt] at hv;rcases hv with rfl |rfl |rfl |rfl |rfl |rfl<;>rfl⟩
def outE(o:Ky):Int:=if 1≤o.1∧o.1≤3∧0≤o.2.1∧o.2.1≤63∧1≤o.2.2 then 0 else 2
def attP(a:At):Prop:=0≤a.at_∧a.at_≤1099511627776∧outE a.out=0∧1≤a.why∧a.why≤3∧1≤a.ans∧a.ans≤3
instance (a:At):Decidable (attP a):=by unfold attP;infer_instance
def attE(a:At):Int:=if attP a then 0 else 2
theorem outE_iff{o:Ky}:outE o=0↔1≤o.1∧o.1≤3∧0≤o.2.1∧o.2.1≤63∧1≤o.2.2:=by
 unfold outE
 split
 · exact⟨fun _=> ‹_›,fun _=>rfl⟩
 · exact⟨fun h=>absurd h dc,fun h=>absurd h ‹_›⟩
theorem kgood_iff{o:Ky}:outE o=0↔KGood o:=outE_iff
def fre(X:Xs):Option (Nat×Int):=(inS 0 (As X) 0)[0]?
theorem fre_some{X:Xs}{i:Nat}{g:Int}(h:fre X=some (i,g)): ∃v,X[i]? =some (0,g,v):=by
 have h1:=(inS_mem h).2
 rw[Nat.sub_zero] at h1
 unfold As at h1
 rw[List.getElem?_map,Option.map_eq_some_iff] at h1
 obtain⟨⟨a,b,c⟩,h2,h3⟩:=h1
 simp only[sl2,Prod.mk.injEq] at h3
 obtain⟨rfl,rfl⟩:=h3
 exact⟨c,h2⟩
theorem fre_none{X:Xs}:fre X=none↔(inS 0 (As X) 0).length=0:=by
 unfold fre
 rw[List.getElem?_eq_none_iff]
 omega
theorem fre_pos{X:Xs}(h:0<(inS 0 (As X) 0).length):fre X=some (((inS 0 (As X) 0).getD 0 (0,0)).1,((inS 0 (As X) 0).getD 0 (0,0)).2):=by
 unfold fre
 rw[List.getElem?_eq_getElem h,getD_some (List.getElem?_eq_getElem h)]
def grw(X:Xs)(v:Int):Xs:=match fre X with
 |none=>X
 |some (i,g)=>X.set i (1,g,v)
def nam(k:Int)(X:Xs):Ky:=match fre X with
 |none=>(0,0,0)
 |some (i,g)=>(k,(i:Int),g)
def allK(k:Int)(X:Xs):List Ky:=(inS 1 (As X) 0).map fun r=>(k,(r.1:Int),r.2)
def used(X:Xs):Int:=(X.map fun x=>if x.1=1 then x.2.2 else 0).sum
def giv(X:Xs)(o:Ky):Xs:=X.set o.2.1.toNat (shut o.2.2)
def Vals(X:Xs)(V:List Int):Prop:=V.length=64∧ ∀(i:Nat) (g v:Int),X[i]? =some (1,g,v)→V[i]? =some v
theorem vals_new{n:Nat}{g:Int}:Vals (List.replicate n (0,g,0)) (List.replicate 64 0):=⟨List.length_replicate,fun i a v h=>by
 have:=List.eq_of_mem_replicate (List.mem_of_getElem? h)
 simp only[Prod.mk.injEq] at this
 exact absurd this.1 dc⟩
theorem vals_open{X:Xs}{V:List Int}{q:Nat}{g v:Int}(h:Vals X V)(hq:q<64):Vals (X.set q (1,g,v)) (V.set q v):=⟨by rw[List.length_set];exact h.1,fun i a u hi=>by
 rcases set_cases hi with ⟨rfl,h2⟩|⟨h1,h2⟩
 · simp only[Prod.mk.injEq] at h2
   obtain⟨_,rfl,rfl⟩:=h2
   exact List.getElem?_set_self (by rw[h.1];exact hq)
 · rw[List.getElem?_set_ne (fun e=>h1 e.symm)]
   exact h.2 i a u h2⟩
theorem vals_shut{X:Xs}{V:List Int}{q:Nat}{e g v:Int}(h:Vals X V)(he:e≠1):Vals (X.set q (e,g,v)) V:=⟨h.1,fun i a u hi=>by
 rcases set_cases hi with ⟨rfl,h2⟩|⟨h1,h2⟩
 · simp only[Prod.mk.injEq] at h2
   exact absurd h2.1.symm he
 · exact h.2 i a u h2⟩
theorem shut_st(z:Int):(shut z).1≠1:=by
 unfold shut
 split
 · exact(by decide:(0:Int)≠1)
 · exact(by decide:(2:Int)≠1)
theorem vals_giv{X:Xs}{V:List Int}(o:Ky)(h:Vals X V):Vals (giv X o) V:=by
 have h1:=shut_st o.2.2
 unfold giv
 generalize shut o.2.2=q at h1 ⊢
 exact vals_shut (e:=q.1) (g:=q.2.1) (v:=q.2.2) h h1
theorem vals_off{X:Xs}{V:List Int}(o:Ky)(u:Int)(h:Vals X V):Vals (giv X o) (V.set o.2.1.toNat u):=by
 have h1:=vals_giv o h
 refine⟨by rw[List.length_set];exact h.1,fun i a v hi=> ?_⟩
 rcases set_cases (show (X.set o.2.1.toNat (shut o.2.2))[i]? =some (1,a,v) from hi) with ⟨rfl,h2⟩|⟨h3,h2⟩
 · exact absurd (congrArg Prod.fst h2).symm (shut_st _)
 · rw[List.getElem?_set_ne (fun e=>h3 e.symm)]
   exact h1.2 i a v hi
structure Wst where
 F:Xs
 B:Xs
 D:Xs
 q:List Int
 T:List At
 now:Int
def Wst.tab(S:Wst)(k:Int):Xs:=if k=1 then S.F else if k=2 then S.B else S.D
def Wst.put(S:Wst)(k:Int)(X:Xs):Wst:=if k=1 then {S with F:=X} else if k=2 then {S with B:=X} else {S with D:=X}
def wnew(g:Int):Wst:=⟨List.replicate 64 (0,g,0),List.replicate 64 (0,g,0),List.replicate 64 (0,g,0),[],[],0⟩
def allS(S:Wst):List Ky:=allK 1 S.F++(allK 2 S.B++allK 3 S.D)
def Thr(S:Wst)(o:Ky):Prop:=KGood o∧(As (S.tab o.1))[o.2.1.toNat]? =some (1,o.2.2)
instance (S:Wst) (o:Ky):Decidable (Thr S o):=by unfold Thr;infer_instance
def godP(k a:Int):Prop:=(k=1∧0≤a∧a≤65535)∨(k=2∧1≤a∧a≤65536)∨(k=3∧1≤a∧a≤1048576)
instance (k a:Int):Decidable (godP k a):=by unfold godP;infer_instance
def grwE(S:Wst)(k a:Int):Int:=if k=2∧1048576<used S.B+a then 4 else if k=3∧1099511627776-a<S.now then 17 else if fre (S.tab k)=none then 4 else 0
def valO(S:Wst)(k a:Int):Int:=if k=3 then S.now+a else a
def acqE(S:Wst)(k a:Int):Int:=if ¬godP k a then 2 else if grwE S k a≠0 then grwE S k a else if S.q.headD 1=2 then 15 else if S.q.headD 1=3 then 14 else 0
def acqO(S:Wst)(k a:Int):Ky:=if acqE S k a=0 then nam k (S.tab k) else (0,0,0)
def acqS(S:Wst)(k a:Int):Wst:=if ¬godP k a∨grwE S k a≠0 then S else if acqE S k a=0 then ({S with q:=S.q.tail}:Wst).put k (grw (S.tab k) (valO S k a)) else {S with q:=S.q.tail}
def relE(S:Wst)(o:Ky)(y:Int):Int:=if ¬KGood o∨y<1∨3<y then 2 else if ¬Thr S o then 5 else if 10000≤S.T.length then 4 else 0
def relA(S:Wst)(o:Ky)(y:Int):Int:=if relE S o y=0 then S.q.headD 1 else 0
def relS(S:Wst)(o:Ky)(y:Int):Wst:=if relE S o y≠0 then S else if S.q.headD 1=1 then ({S with q:=S.q.tail,T:=S.T++ [⟨S.now,o,y,S.q.headD 1⟩]}:Wst).put o.1 (giv (S.tab o.1) o) else {S with q:=S.q.tail,T:=S.T++ [⟨S.now,o,y,S.q.headD 1⟩]}
def tckE(S:Wst)(t:Int):Int:=if t<1∨1048576<t then 2 else if 1099511627776<S.now+t then 17 else 0
def tckS(S:Wst)(t:Int):Wst:=if tckE S t=0 then {S with now:=S.now+t} else S
def aswE(S:Wst)(l:List UInt8):Int:=addE S.q l
def aswS(S:Wst)(l:List UInt8):Wst:= {S with q:=addL S.q l}
section
def Sok(A:List Sl2):Prop:= ∀s∈A,0≤s.1∧s.1≤2∧1≤s.2∧s.2≤4294967295
def Bnd(X:Xs):Prop:= ∀x∈X,x.1=1→0≤x.2.2∧x.2.2≤65536
structure WOk (S:Wst):Prop where
 fl:S.F.length=64
 bl:S.B.length=64
 dl:S.D.length=64
 fk:Sok (As S.F)
 bk:Sok (As S.B)
 dk:Sok (As S.D)
 bb:Bnd S.B
 qb: ∀a∈S.q,1≤a∧a≤3
 qn:S.q.length≤2000
 nl:0≤S.now
 nh:S.now≤1099511627776
 ta: ∀a∈S.T,a.at_≤S.now
 tp: ∀a∈S.T,attP a
 tn:S.T.length≤10000
section
variable {X : Xs} {S : Wst}
theorem slk_set{q:Nat}{y:Fl}(h:Sok (As X))(hy:0≤y.1∧y.1≤2∧1≤y.2.1∧y.2.1≤4294967295):Sok (As (X.set q y)):=by
 rw[as_set]
 intro s hs
 rcases List.mem_or_eq_of_mem_set hs with h1|rfl
 · exact h s h1
 · exact hy
theorem slk_rep{n:Nat}{g:Int}(h:1≤g∧g≤4294967295):Sok (As (List.replicate n (0,g,0))):=by
 intro s hs
 unfold As at hs
 rw[List.map_replicate] at hs
 rw[List.eq_of_mem_replicate hs]
 exact⟨by show (0:Int)≤0;decide,by show (0:Int)≤2;decide,h.1,h.2⟩
theorem sht_ok{z:Int}(h:1≤z∧z≤4294967295):0≤(shut z).1∧(shut z).1≤2∧1≤(shut z).2.1∧(shut z).2.1≤4294967295:=by
 unfold shut
 split
 · exact⟨by show (0:Int)≤0;decide,by show (0:Int)≤2;decide,by show 1≤z+1;omega,by show z+1≤4294967295;omega⟩
 · exact⟨by show (0:Int)≤2;decide,by show (2:Int)≤2;decide,h.1,h.2⟩
theorem as_at{i:Nat}{s:Sl2}(h:(As X)[i]? =some s): ∃v,X[i]? =some (s.1,s.2,v):=by
 unfold As at h
 rw[List.getElem?_map,Option.map_eq_some_iff] at h
 obtain⟨⟨a,b,c⟩,h2,h3⟩:=h
 subst h3
 exact⟨c,h2⟩
theorem grw_len(X:Xs)(v:Int):(grw X v).length=X.length:=by
 unfold grw
 split
 · rfl
 · exact List.length_set
theorem giv_len(X:Xs)(o:Ky):(giv X o).length=X.length:=List.length_set
theorem grw_ok(h:Sok (As X))(v:Int):Sok (As (grw X v)):=by
 unfold grw
 split
 · exact h
 · rename_i i g hf
   obtain⟨u,hu⟩:=fre_some hf
   have:=h _ (List.mem_of_getElem? (as_get hu))
   exact slk_set h ⟨by show (0:Int)≤1;decide,by show (1:Int)≤2;decide,this.2.2.1,this.2.2.2⟩
theorem giv_ok(h:Sok (As X)){o:Ky}(ho:(As X)[o.2.1.toNat]? =some (1,o.2.2)):Sok (As (giv X o)):=by
 have:=h _ (List.mem_of_getElem? ho)
 exact slk_set h (sht_ok ⟨this.2.2.1,this.2.2.2⟩)
theorem grw_bnd(h:Bnd X){v:Int}(hv:0≤v∧v≤65536):Bnd (grw X v):=by
 unfold grw
 split
 · exact h
 · intro x hx h1
   rcases List.mem_or_eq_of_mem_set hx with hx|rfl
   · exact h x hx h1
   · exact hv
theorem giv_bnd(h:Bnd X)(o:Ky):Bnd (giv X o):=fun x hx h1=>by
 rcases List.mem_or_eq_of_mem_set hx with hx|rfl
 · exact h x hx h1
 · exact absurd h1 (shut_st _)
theorem rep_bnd{n:Nat}{g:Int}:Bnd (List.replicate n (0,g,0)):=fun x hx h1=>by
 rw[List.eq_of_mem_replicate hx] at h1
 exact absurd h1 (by show ¬(0:Int)=1;decide)
theorem used_bd: ∀ {X:Xs},Bnd X→0≤used X∧used X≤65536*(X.length:Int)
 | [],_=>⟨Int.le_refl _,by show (0:Int)≤_;simp⟩
 |x::X,h=>by
  obtain⟨h1,h2⟩:=used_bd (X:=X) fun y hy=>h y (List.mem_cons_of_mem _ hy)
  have h3:=h x List.mem_cons_self
  unfold used at h1 h2 ⊢
  rw[List.map_cons,List.sum_cons,List.length_cons]
  by_cases hx:x.1=1
  · rw[if_pos hx]
    have:=h3 hx
    omega
  · rw[if_neg hx]
    omega
theorem headD_bd{q:List Int}(h: ∀a∈q,1≤a∧a≤3):1≤q.headD 1∧q.headD 1≤3:=by
 cases q with
 |nil=>decide
 |cons a q=>exact h a List.mem_cons_self
theorem tail_bd{q:List Int}(h: ∀a∈q,1≤a∧a≤3): ∀a∈q.tail,1≤a∧a≤3:=fun a ha=>h a (List.mem_of_mem_tail ha)
theorem wok_new{g:Int}(h:1≤g∧g≤4294967295):WOk (wnew g) where
 fl:=List.length_replicate
 bl:=List.length_replicate
 dl:=List.length_replicate
 fk:=slk_rep h
 bk:=slk_rep h
 dk:=slk_rep h
 bb:=rep_bnd
 qb a ha:=by cases ha
 qn:=Nat.zero_le _
 nl:=Int.le_refl _
 nh:=(by decide:(0:Int)≤1099511627776)
 ta a ha:=by cases ha
 tp a ha:=by cases ha
 tn:=Nat.zero_le _
theorem wok_tl(h:WOk S):WOk {S with q:=S.q.tail}:= {h with qb:=tail_bd h.qb,qn:=by show S.q.tail.length≤2000;rw[List.length_tail];have:=h.qn;omega}
theorem godP_k{k a:Int}(h:godP k a):k=1∨k=2∨k=3:=by
 unfold godP at h
 omega
theorem put1(S:Wst)(X:Xs):S.put 1 X= {S with F:=X}:=rfl
theorem put2(S:Wst)(X:Xs):S.put 2 X= {S with B:=X}:=rfl
theorem put3(S:Wst)(X:Xs):S.put 3 X= {S with D:=X}:=rfl
theorem tab1(S:Wst):S.tab 1=S.F:=rfl
theorem tab2(S:Wst):S.tab 2=S.B:=rfl
theorem tab3(S:Wst):S.tab 3=S.D:=rfl
theorem wok_acq(h:WOk S)(k a:Int):WOk (acqS S k a):=by
 unfold acqS
 split
 · exact h
 · rename_i hc
   split
   · have hg:godP k a:=by
      rcases Classical.em (godP k a) with q|q
      · exact q
      · exact absurd (.inl q) hc
     have h1:=wok_tl h
     rcases godP_k hg with rfl |rfl |rfl
     · rw[put1,tab1]
       exact {h1 with fl:=(grw_len _ _).trans h.fl,fk:=grw_ok h.fk _}
     · rw[put2,tab2]
       refine {h1 with bl:=(grw_len _ _).trans h.bl,bk:=grw_ok h.bk _,bb:=grw_bnd h.bb ?_}
       unfold valO
       rw[if_neg dc]
       unfold godP at hg
       omega
     · rw[put3,tab3]
       exact {h1 with dl:=(grw_len _ _).trans h.dl,dk:=grw_ok h.dk _}
   · exact wok_tl h
theorem rel_zero{o:Ky}{y:Int}(h:relE S o y=0):KGood o∧1≤y∧y≤3∧Thr S o∧S.T.length<10000:=by
 unfold relE at h
 split at h
 · exact absurd h dc
 · rename_i h1
   split at h
   · exact absurd h dc
   · rename_i h2
     split at h
     · exact absurd h dc
     · simp only[not_or,Decidable.not_not] at h1 h2
       exact⟨h1.1,by omega,by omega,h2,by omega⟩
theorem kgood_k{o:Ky}(h:KGood o):o.1=1∨o.1=2∨o.1=3:=by
 have:=h.1
 have:=h.2.1
 omega
theorem wok_add(h:WOk S){a:At}(ha:a.at_=S.now)(hp:attP a)(hn:S.T.length<10000):WOk {S with q:=S.q.tail,T:=S.T++ [a]}:=
 {wok_tl h with
  ta:=fun b hb=>by
   rcases List.mem_append.1 hb with hb|hb
   · exact h.ta b hb
   · rw[List.mem_singleton.1 hb,ha];exact Int.le_refl _
  tp:=fun b hb=>by
   rcases List.mem_append.1 hb with hb|hb
   · exact h.tp b hb
   · rw[List.mem_singleton.1 hb];exact hp
  tn:=by show (S.T++ [a]).length≤10000;rw[List.length_append];exact hn}
theorem rel_att(h:WOk S){o:Ky}{y:Int}(he:relE S o y=0):attP ⟨S.now,o,y,S.q.headD 1⟩:=by
 obtain⟨h1,h2,h3,_,_⟩:=rel_zero he
 have:=headD_bd h.qb
 exact⟨h.nl,h.nh,kgood_iff.2 h1,h2,h3,this.1,this.2⟩
theorem wok_rel(h:WOk S)(o:Ky)(y:Int):WOk (relS S o y):=by
 unfold relS
 split
 · exact h
 · rename_i hc
   have he:relE S o y=0:=Decidable.not_not.1 hc
   obtain⟨h1,h2,h3,h4,h5⟩:=rel_zero he
   have h6:=wok_add (a:=⟨S.now,o,y,S.q.headD 1⟩) h rfl (rel_att h he) h5
   split
   · obtain⟨_,ht⟩:=h4
     obtain⟨k,i,g⟩:=o
     rcases kgood_k h1 with hk|hk|hk<;>(have hk':k=_:=hk;subst hk')
     · rw[put1,tab1]
       exact {h6 with fl:=(giv_len _ _).trans h.fl,fk:=giv_ok h.fk ht}
     · rw[put2,tab2]
       exact {h6 with bl:=(giv_len _ _).trans h.bl,bk:=giv_ok h.bk ht,bb:=giv_bnd h.bb _}
     · rw[put3,tab3]
       exact {h6 with dl:=(giv_len _ _).trans h.dl,dk:=giv_ok h.dk ht}
   · exact h6
theorem tck_zero{t:Int}(h:tckE S t=0):1≤t∧t≤1048576∧S.now+t≤1099511627776:=by
 unfold tckE at h
 split at h
 · exact absurd h dc
 · split at h
   · exact absurd h dc
   · omega
theorem wok_tck(h:WOk S)(t:Int):WOk (tckS S t):=by
 unfold tckS
 split
 · rename_i he
   have h0:=tck_zero he
   have:=h.nl
   exact {h with nl:=by show 0≤S.now+t;omega,nh:=h0.2.2,ta:=fun a ha=>by have:=h.ta a ha;show _≤S.now+t;omega}
 · exact h
theorem prs_bd{l:List UInt8}: ∀a∈(prs l).1,1≤a∧a≤3:=by
 unfold prs
 split
 · intro a ha;cases ha
 · split
   · intro a ha;cases ha
   · rename_i h2
     intro a ha
     obtain⟨b,hb,rfl⟩:=List.mem_map.1 ha
     obtain⟨i,hi⟩:=List.getElem?_of_mem hb
     have h3:=gl_at (l:=l) (i:=i) (by have:=(List.getElem?_eq_some_iff.1 hi).1;omega) hi
     have:=cd_bd b
     omega
theorem wok_asw(h:WOk S)(l:List UInt8):WOk (aswS S l):=by
 unfold aswS
 refine {h with qb:= ?_,qn:=addL_len h.qn}
 show ∀a∈addL S.q l,_
 unfold addL
 split
 · intro a ha
   rcases List.mem_append.1 ha with ha|ha
   · exact h.qb a ha
   · exact prs_bd a ha
 · exact h.qb
end
end
section
def slI(X:Xs)(i:Nat):Nat:=((inS 1 (As X) 0).getD i (0,0)).1
def slG(X:Xs)(i:Nat):Int:=((inS 1 (As X) 0).getD i (0,0)).2
def vaA(X:Xs)(q:Nat):Int:=(X.getD q (0,0,0)).2.2
theorem sl_at{X:Xs}{i:Nat}(h:i<(inS 1 (As X) 0).length):(As X)[slI X i]? =some (1,slG X i):=inS_get h
theorem sl_lt{X:Xs}{i:Nat}(h:i<(inS 1 (As X) 0).length):slI X i<X.length:=by
 have:=(List.getElem?_eq_some_iff.1 (sl_at h)).1
 rwa [as_len] at this
theorem vals_at{X:Xs}{V:List Int}{q:Nat}{g v:Int}(hV:Vals X V)(h:(As X)[q]? =some (1,g))(hv:V[q]? =some v):v=vaA X q:=by
 obtain⟨u,hu⟩:=as_at h
 have h1:=hV.2 q g u hu
 rw[hv] at h1
 unfold vaA
 rw[getD_some hu]
 exact Option.some.inj h1
def useT(X:Xs)(i:Nat):Int:=((inS 1 (As X) 0).take i).foldl (fun s r=>s+vaA X r.1) 0
theorem useT_go{X:Xs}{i:Nat}(h:i<(inS 1 (As X) 0).length):useT X (i+1)=useT X i+vaA X (slI X i):=by
 unfold useT slI
 rw[List.take_add_one,List.getElem?_eq_getElem h,List.foldl_append,getD_some (List.getElem?_eq_getElem h)]
 rfl
theorem vaA_cons(x:Fl)(X:Xs)(q:Nat):vaA (x::X) (q+1)=vaA X q:=rfl
theorem use_all: ∀(X Y:Xs) (k:Nat) (s:Int),(∀q,vaA Y (k+q)=vaA X q)→(inS 1 (As X) k).foldl (fun s r=>s+vaA Y r.1) s=s+used X
 | [],Y,k,s,_=>by simp[inS,As,used]
 |x::X,Y,k,s,h=>by
  have h1:=use_all X Y (k+1)
  have h2: ∀q,vaA Y (k+1+q)=vaA X q:=fun q=>by
   have:=h (q+1)
   rw[vaA_cons] at this
   rw[←this]
   congr 1
   omega
  show (inS 1 (sl2 x::As X) k).foldl _ s=_
  have h0:vaA Y k=x.2.2:=h 0
  by_cases hx:x.1=1
  · have e:inS 1 (sl2 x::As X) k=(k,x.2.1)::inS 1 (As X) (k+1):=by
     show (if (sl2 x).1=1 then _ else _)=_
     rw[if_pos (show (sl2 x).1=1 from hx)]
     rfl
    rw[e,List.foldl_cons,h1 _ h2,h0]
    unfold used
    rw[List.map_cons,List.sum_cons,if_pos hx]
    omega
  · have e:inS 1 (sl2 x::As X) k=inS 1 (As X) (k+1):=by
     show (if (sl2 x).1=1 then _ else _)=_
     rw[if_neg (show ¬(sl2 x).1=1 from hx)]
    rw[e,h1 _ h2]
    unfold used
    rw[List.map_cons,List.sum_cons,if_neg hx]
    omega
theorem useT_all(X:Xs):useT X (inS 1 (As X) 0).length=used X:=by
 unfold useT
 rw[List.take_length,use_all X X 0 0 (fun q=>by rw[Nat.zero_add])]
 omega
theorem vaA_bd{X:Xs}(h:Bnd X){q:Nat}{g:Int}(hq:(As X)[q]? =some (1,g)):0≤vaA X q∧vaA X q≤65536:=by
 obtain⟨u,hu⟩:=as_at hq
 unfold vaA
 rw[getD_some hu]
 exact h _ (List.mem_of_getElem? hu) rfl
theorem useT_bd{X:Xs}(h:Bnd X): ∀i:Nat,i≤(inS 1 (As X) 0).length→0≤useT X i∧useT X i≤65536*(i:Int)
 |0,_=>⟨Int.le_refl _,Int.le_refl _⟩
 |i+1,hi=>by
  have h1:=useT_bd h i om
  have h2:=vaA_bd h (sl_at (X:=X) (i:=i) om)
  rw[useT_go om]
  omega
theorem allK_take{X:Xs}{k:Int}{i:Nat}(h:i<(inS 1 (As X) 0).length):(allK k X).take i++ [(k,(slI X i:Int),slG X i)]=(allK k X).take (i+1):=by
 have h1:(inS 1 (As X) 0)[i]? =some (slI X i,slG X i):=by
  unfold slI slG
  rw[List.getElem?_eq_getElem h,getD_some (List.getElem?_eq_getElem h)]
 have h2:(allK k X)[i]? =some (k,(slI X i:Int),slG X i):=by
  unfold allK
  rw[List.getElem?_map,h1]
  rfl
 rw[List.take_add_one,h2]
 rfl
theorem allK_len(k:Int)(X:Xs):(allK k X).length=(inS 1 (As X) 0).length:=List.length_map _
def tkE(X:Xs):Int:=if fre X=none then 4 else 0
def pinE(X:Xs)(v:Int):Int:=if 1048576<used X+v then 4 else tkE X
def pinX(X:Xs)(v:Int):Xs:=if pinE X v=0 then grw X v else X
def pinO(X:Xs)(v:Int):Ky:=if pinE X v=0 then nam 2 X else (0,0,0)
def gntE(X:Xs)(t now:Int):Int:=if 1099511627776-t<now then 17 else tkE X
def gntX(X:Xs)(t now:Int):Xs:=if gntE X t now=0 then grw X (now+t) else X
def gntO(X:Xs)(t now:Int):Ky:=if gntE X t now=0 then nam 3 X else (0,0,0)
section
variable {X : Xs} {v t now : Int}
theorem take_full(h:(takeV (As X)).2.2≠0):tkE X=4∧(takeV (As X)).2.2=4∧takeA (As X)=As X:=by
 rcases Nat.eq_zero_or_pos (inS 0 (As X) 0).length with h0|h0
 · exact⟨if_pos (fre_none.2 h0),by rw[(take_none h0).1],(take_none h0).2⟩
 · exact absurd (by rw[(take_some h0).1]) h
theorem take_free(h:(takeV (As X)).2.2=0):tkE X=0∧ ∃i g u,fre X=some (i,g)∧X[i]? =some (0,g,u)∧(takeV (As X)).1=(i:Int)∧(takeV (As X)).2.1=g∧takeA (As X)=As (X.set i (1,g,v)):=by
 rcases Nat.eq_zero_or_pos (inS 0 (As X) 0).length with h0|h0
 · rw[(take_none h0).1] at h
   exact absurd h dc
 · have h1:=fre_pos h0
   obtain⟨u,hu⟩:=fre_some h1
   refine⟨if_neg (by rw[h1];exact fun q=>nomatch q),_,_,u,h1,hu,by rw[(take_some h0).1],by rw[(take_some h0).1],?_⟩
   rw[(take_some h0).2,as_set]
theorem pin_much(h:1048576<used X+v):pinE X v=4∧pinO X v=(0,0,0)∧pinX X v=X:=by
 have e:pinE X v=4:=if_pos h
 exact⟨e,if_neg (by rw[e];decide),if_neg (by rw[e];decide)⟩
theorem pin_full(h: ¬1048576<used X+v)(ht:tkE X=4):pinE X v=4∧pinO X v=(0,0,0)∧pinX X v=X:=by
 have e:pinE X v=4:=(if_neg h).trans ht
 exact⟨e,if_neg (by rw[e];decide),if_neg (by rw[e];decide)⟩
theorem pin_ok{i:Nat}{g:Int}(h: ¬1048576<used X+v)(hf:fre X=some (i,g)):pinE X v=0∧pinO X v=(2,(i:Int),g)∧pinX X v=X.set i (1,g,v):=by
 have e:pinE X v=0:=(if_neg h).trans (if_neg (by rw[hf];exact fun q=>nomatch q))
 refine⟨e,(if_pos e).trans ?_,(if_pos e).trans ?_⟩
 · unfold nam;rw[hf]
 · unfold grw;rw[hf]
theorem gnt_over(h:1099511627776-t<now):gntE X t now=17∧gntO X t now=(0,0,0)∧gntX X t now=X:=by
 have e:gntE X t now=17:=if_pos h
 exact⟨e,if_neg (by rw[e];decide),if_neg (by rw[e];decide)⟩
theorem gnt_full(h: ¬1099511627776-t<now)(ht:tkE X=4):gntE X t now=4∧gntO X t now=(0,0,0)∧gntX X t now=X:=by
 have e:gntE X t now=4:=(if_neg h).trans ht
 exact⟨e,if_neg (by rw[e];decide),if_neg (by rw[e];decide)⟩
theorem gnt_ok{i:Nat}{g:Int}(h: ¬1099511627776-t<now)(hf:fre X=some (i,g)):gntE X t now=0∧gntO X t now=(3,(i:Int),g)∧gntX X t now=X.set i (1,g,now+t):=by
 have e:gntE X t now=0:=(if_neg h).trans (if_neg (by rw[hf];exact fun q=>nomatch q))
 refine⟨e,(if_pos e).trans ?_,(if_pos e).trans ?_⟩
 · unfold nam;rw[hf]
 · unfold grw;rw[hf]
theorem pl_set{V:List Int}{i:Nat}{g:Int}(h:X.length=64∧Bnd X∧Vals X V)(hi:i<64)(hv:0≤v∧v≤65536):(X.set i (1,g,v)).length=64∧Bnd (X.set i (1,g,v))∧Vals (X.set i (1,g,v)) (V.set i v):=
 ⟨List.length_set.trans h.1,fun x hx h1=>by
  rcases List.mem_or_eq_of_mem_set hx with hx|rfl
  · exact h.2.1 x hx h1
  · exact hv,vals_open h.2.2 hi⟩
theorem dk_set{V:List Int}{i:Nat}{g:Int}(h:X.length=64∧Vals X V)(hi:i<64):(X.set i (1,g,v)).length=64∧Vals (X.set i (1,g,v)) (V.set i v):=⟨List.length_set.trans h.1,vals_open h.2 hi⟩
theorem vals_off2{V:List Int}{o:Ky}{q:Nat}{u:Int}(h:Vals X V)(hq:o.2.1=(q:Int)):Vals (giv X o) (V.set q u):=by
 have:=vals_off o u h
 rwa [hq,Int.toNat_natCast] at this
theorem pl_giv{V:List Int}{o:Ky}{q:Nat}{u:Int}(h:X.length=64∧Bnd X∧Vals X V)(hq:o.2.1=(q:Int)):(giv X o).length=64∧Bnd (giv X o)∧Vals (giv X o) (V.set q u):=⟨(giv_len X o).trans h.1,giv_bnd h.2.1 o,vals_off2 h.2.2 hq⟩
theorem dk_giv{V:List Int}{o:Ky}(h:X.length=64∧Vals X V):(giv X o).length=64∧Vals (giv X o) V:=⟨(giv_len X o).trans h.1,vals_giv o h.2⟩
theorem as_rep(n:Nat)(g v:Int):List.replicate n (0,g)=As (List.replicate n (0,g,v)):=by
 unfold As
 rw[List.map_replicate]
 rfl
theorem giveA_giv(X:Xs)(o:Ky){q:Nat}(h:o.2.1=(q:Int)):giveA (As X) q o.2.2=As (giv X o):=by
 unfold giv
 rw[h,Int.toNat_natCast]
 exact giveA_as X q o.2.2
end
theorem erase_len{α:Type}{L:List α}{k:Nat}{x:α}(h:L[k]? =some x):(L.eraseIdx k).length+1=L.length:=by
 have:=(List.getElem?_eq_some_iff.1 h).1
 rw[List.length_eraseIdx,if_pos this]
 omega
theorem ky_eq{a:Ky}{x y z:Int}(h:a.1=x∧a.2.1=y∧a.2.2=z):a=(x,y,z):=by
 obtain⟨a,b,c⟩:=a
 obtain⟨rfl,rfl,rfl⟩:=h
 rfl
theorem ky_ne{a:Ky}{x y z:Int}(h: ¬(a.1=x∧a.2.1=y∧a.2.2=z)):a≠(x,y,z):=fun e=>h (by subst e;exact⟨rfl,rfl,rfl⟩)
theorem tk_ne{L:List Ky}{i:Nat}{a o:Ky}(h: ∀b∈L.take i,b≠o)(ha:L[i]? =some a)(hn:a≠o): ∀b∈L.take (i+1),b≠o:=fun b hb=>by
 rw[List.take_add_one,ha] at hb
 rcases List.mem_append.1 hb with hb|hb
 · exact h b hb
 · rw[Option.toList_some,List.mem_singleton] at hb
   rw[hb]
   exact hn
theorem tk_not{L:List Ky}{i:Nat}{o:Ky}(h: ∀b∈L.take i,b≠o)(hi:L.length≤i): ¬o∈L:=fun ho=>h o (by rw[List.take_of_length_le hi];exact ho) rfl
theorem lget{V:List Int}{n:Nat}(h:V.length=n):V=(List.range n).map fun i=>V.getD i 0:=by
 apply List.ext_getElem?
 intro i
 rw[List.getElem?_map]
 rcases Nat.lt_or_ge i n with hi|hi
 · rw[List.getElem?_range hi,List.getElem?_eq_getElem om]
   show _=some (V.getD i 0)
   rw[getD_some (List.getElem?_eq_getElem om)]
 · rw[List.getElem?_eq_none om,List.getElem?_eq_none (by rw[List.length_range];exact hi)]
   rfl
theorem vlit{V:List Int}(h:V.length=64):fl eI V= [.int .i64 (V.getD 0 0),.int .i64 (V.getD 1 0),.int .i64 (V.getD 2 0),.int .i64 (V.getD 3 0),.int .i64 (V.getD 4 0),.int .i64 (V.getD 5 0),.int .i64 (V.getD 6 0),.int .i64 (V.getD 7 0),.int .i64 (V.getD 8 0),.int .i64 (V.getD 9 0),.int .i64 (V.getD 10 0),.int .i64 (V.getD 11 0),.int .i64 (V.getD 12 0),.int .i64 (V.getD 13 0),.int .i64 (V.getD 14 0),.int .i64 (V.getD 15 0),.int .i64 (V.getD 16 0),.int .i64 (V.getD 17 0),.int .i64 (V.getD 18 0),.int .i64 (V.getD 19 0),.int .i64 (V.getD 20 0),.int .i64 (V.getD 21 0),.int .i64 (V.getD 22 0),.int .i64 (V.getD 23 0),.int .i64 (V.getD 24 0),.int .i64 (V.getD 25 0),.int .i64 (V.getD 26 0),.int .i64 (V.getD 27 0),.int .i64 (V.getD 28 0),.int .i64 (V.getD 29 0),.int .i64 (V.getD 30 0),.int .i64 (V.getD 31 0),.int .i64 (V.getD 32 0),.int .i64 (V.getD 33 0),.int .i64 (V.getD 34 0),.int .i64 (V.getD 35 0),.int .i64 (V.getD 36 0),.int .i64 (V.getD 37 0),.int .i64 (V.getD 38 0),.int .i64 (V.getD 39 0),.int .i64 (V.getD 40 0),.int .i64 (V.getD 41 0),.int .i64 (V.getD 42 0),.int .i64 (V.getD 43 0),.int .i64 (V.getD 44 0),.int .i64 (V.getD 45 0),.int .i64 (V.getD 46 0),.int .i64 (V.getD 47 0),.int .i64 (V.getD 48 0),.int .i64 (V.getD 49 0),.int .i64 (V.getD 50 0),.int .i64 (V.getD 51 0),.int .i64 (V.getD 52 0),.int .i64 (V.getD 53 0),.int .i64 (V.getD 54 0),.int .i64 (V.getD 55 0),.int .i64 (V.getD 56 0),.int .i64 (V.getD 57 0),.int .i64 (V.getD 58 0),.int .i64 (V.getD 59 0),.int .i64 (V.getD 60 0),.int .i64 (V.getD 61 0),.int .i64 (V.getD 62 0),.int .i64 (V.getD 63 0)]:=by
 have h1:fl eI V=fl eI ((List.range 64).map fun i=>V.getD i 0):=congrArg _ (lget h)
 exact h1.trans kr
end
end Go.Proofs.YtehlamblpekmkaaGreatDoor
