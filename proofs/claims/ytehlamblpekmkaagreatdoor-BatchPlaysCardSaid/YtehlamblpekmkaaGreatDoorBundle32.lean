/- Walks, printed by my generator P:../fds/gen8.py. -/
import Derived.Test.YtehlamblpekmkaaGreatDoorBundle31
import Derived.Test.YtehlamblpekmkaaGreatDoorHq
import Derived.Test.YtehlamblpekmkaaGreatDoorFdsP
namespace Go.Proofs.YtehlamblpekmkaaGreatDoor
open Tryz
set_option maxHeartbeats 4000000
theorem take_y(b n:Nat)(A:List Sl2)(h:0<(inS 0 A 0).length):HT prog 207 [Value.pointer (some ⟨b,0,none⟩)] [Tb b n A] (fun v K=>v=Value.tuple #[Value.agg #[Value.int .i64 (((inS 0 A 0).getD 0 (0,0)).1:Int),Value.int .u32 ((inS 0 A 0).getD 0 (0,0)).2],Value.int .i64 0]∧K= [Tb b n (A.set ((inS 0 A 0).getD 0 (0,0)).1 (1,((inS 0 A 0).getD 0 (0,0)).2))]):=
 (take_ht b n A).mono fun v K hP=>by
  rw[(take_some h).1,(take_some h).2] at hP
  exact hP
theorem take_n(b n:Nat)(A:List Sl2)(h:(inS 0 A 0).length=0):HT prog 207 [Value.pointer (some ⟨b,0,none⟩)] [Tb b n A] (fun v K=>v=Value.tuple #[Value.agg #[Value.int .i64 0,Value.int .u32 0],Value.int .i64 4]∧K= [Tb b n A]):=
 (take_ht b n A).mono fun v K hP=>by
  rw[(take_none h).1,(take_none h).2] at hP
  exact hP
theorem get_zero{L:List (Nat×Int)}(h:0<L.length):L[0]? =some ((L.getD 0 (0,0)).1,(L.getD 0 (0,0)).2):=by
 rw[getD_some (List.getElem?_eq_getElem h),List.getElem?_eq_getElem h]
theorem tk_map{α β:Type}(f:α→β){l:List α}{i:Nat}{x:α}(h:l[i]? =some x):(l.take i).map f++ [f x]=(l.take (i+1)).map f:=by
 rw[List.take_add_one,h,List.map_append]
 rfl
theorem tk_all_map{α β:Type}(f:α→β){l:List α}{i:Nat}(h:l.length≤i):(l.take i).map f=l.map f:=by rw[List.take_of_length_le h]
theorem mclone(m:Nat)(E:Mm):HT prog 189 [.map (some m)] [Mp m E] (fun v K=> ∃m2:Nat,v= .map (some m2)∧K= [Mp m E,Mp m2 E]):=by
 refine hiS func189 ntmps189 fun g w0 R h0=>go [.s 3 1]<|lwP (.iface 257 (.map (some m))) (law_mkIface (t:=257) (x:=Ot 5) kr underlying257 rfl (.map (some m)) kr _) ?_
 refine actG ?_
 refine an_clone (t:=257) (d:=7) (f:=239) kr rfl (fun w_=>by rw[run_callFunc_extern func239 kr kr kr (e:=Extern.MapsClone.clone) kr];simp only[Sem.run_bind,Sem.run_pure]) h0 ?_
 intro r10 _ h12
 refine nxA<|lwP (.map (some r10)) (law_tAssert (t:=257) (s:=20) (x:=Ot 7) kr underlying257 rfl (.map (some r10)) kr _)<|g0 ?_
 exact en (.map (some r10)) [] ⟨_,_,rfl,⟨r10,rfl,rfl⟩,h12.a.t3⟩
theorem fnew_ok(n:Nat)(gn:Int)(hn:1≤n∧n≤64)(hgn:1≤gn∧gn≤4294967295):HT prog 98 [iV (n:Int),uV gn] [] (fun v K=> ∃b:Nat,v= .tuple #[pV b,iV 0]∧K= [Fd b n (List.replicate n (0,gn,0))]):=by
 refine hiS func98 ntmps98 fun g w0 R h0=>go [.v 1 1 (oF ((n:Int)>64))]<|cP call96 (snew_ok n om gn om) h0 ?_
 rintro v K _ (⟨b10,rfl,rfl⟩) h12
 have h13:=ap1 h12
 refine g0 ?_
 refine actG ?_
 refine an_makeMap (t:=257) (d:=20) kr kr rfl h13 ?_
 intro r14 _ h16
 refine nxA<|g0<|nP 259 [pV b10,.map (some r14)] h16 (fun r17 w18 h19=> ?_)
 refine g0 ?_
 have hn64_:n≤64:=by omega
 have h21:sat g _ (Fd r17 n (List.replicate n (0,gn,0))::_):=fd_close nums_nil om List.map_replicate.symm rfl h19.b.a.t4
 exact en (.tuple #[pV r17,iV 0]) [] ⟨_,_,rfl,⟨r17,rfl,rfl⟩,h21⟩
theorem fopen_ht(b n:Nat)(X:Xs)(v:Int):HT prog 201 [pV b,iV v] [Fd b n X] (fun r K=>r= .tuple #[.agg #[iV (opnO X v).1,iV (opnO X v).2.1,uV (opnO X v).2.2],iV (opnE X v)]∧K= [Fd b n (opnX X v)]):=by
 refine hiS func201 ntmps201 fun g w0 R h0=> ?_
 obtain⟨s10,m11,E12,hN13,h14⟩:=fd_open h0
 have hn64_:=hN13.2
 have hb15:=tb_bd (j:=1) h14 rfl
 have hAl_:=hb15.1;have hn1_:=hb15.2.1;have hok_:=hb15.2.2.2
 refine g0<|nP 72 [iV 0,iV 0,uV 0] h14 (fun r16 _ h18=> ?_)
 have h19:=h18.a.t5
 refine g0<|cl1 call188 (made_y b s10 m11) h19 fun _ h21=>go [.s 3 1] ?_
 by_cases c22:v<0
 ·
  have h23:=h21.a.t5
  refine go [.v 3 1 (oT _ c22)]<|sA [iV 0,iV 0,uV 0] h23 fun w24 h25=>g0 ?_
  have ho_:=opn_arg (X:=X) (v:=v) om
  have h27:sat g _ (Fd b n X::_):=fd_close hN13.1 om rfl rfl h25.c.c.c.t5
  exact en (.tuple #[.agg #[iV 0,iV 0,uV 0],iV 2]) [rd 0 0 0 0 3 h25] ⟨_,[Fd b n X],rfl,⟨by rw[ho_.1,ho_.2.1],by rw[ho_.2.2]⟩,h27.B.t2⟩
 refine go [.v 3 1 (oF _ c22),.s 3 4] ?_
 by_cases c29:v>65535
 ·
  have h30:=h21.a.t5
  refine go [.v 3 4 (oT _ c29)]<|sA [iV 0,iV 0,uV 0] h30 fun w31 h32=>g0 ?_
  have ho_:=opn_arg (X:=X) (v:=v) om
  have h34:sat g _ (Fd b n X::_):=fd_close hN13.1 om rfl rfl h32.c.c.c.t5
  exact en (.tuple #[.agg #[iV 0,iV 0,uV 0],iV 2]) [rd 0 0 0 0 3 h32] ⟨_,[Fd b n X],rfl,⟨by rw[ho_.1,ho_.2.1],by rw[ho_.2.2]⟩,h34.B.t2⟩
 refine go [.v 3 4 (oF _ c29),rd 5 3 0 0 1 h21] ?_
 by_cases c36:0<(inS 0 (As X) 0).length
 ·
  refine cl1 call207 (take_y s10 n (As X) om) h21.b.t5 fun _ h39=>g0<|nP 148 [iV 0,uV 0] h39 (fun r40 _ h42=> ?_)
  refine sA [iV ((((inS 0 (As X) 0).getD 0 (0,0)).1:Nat):Int),uV (((inS 0 (As X) 0).getD 0 (0,0)).2)] h42 fun _ h44=>go [rd 8 0 0 0 2 h44]<|cl0 call253 (ffile ((((inS 0 (As X) 0).getD 0 (0,0)).1:Nat):Int) (((inS 0 (As X) 0).getD 0 (0,0)).2)) h44 fun _ h46=>nP 72 [iV 0,iV 0,uV 0] h46 (fun r47 _ h49=> ?_)
  refine sA [iV 1,iV ((((inS 0 (As X) 0).getD 0 (0,0)).1:Nat):Int),uV (((inS 0 (As X) 0).getD 0 (0,0)).2)] h49 fun _ h51=>g0<|dw (fls [0,1,2,3,4,5] (Tr.an 6 Tr.nil)) h51 fun _ h53=> ?_
  have h54:=h53.e.t7
  refine go [rd 9 3 3 1 1 h53,rd 9 4 0 0 3 h53] ?_
  refine actG ?_
  refine an_mapUpdate (t:=257) (m:=Ot 39) (x:=Ot 40) (y:=Ot 41) kr kr underlying257 keyok (1,((((inS 0 (As X) 0).getD 0 (0,0)).1:Nat):Int),((inS 0 (As X) 0).getD 0 (0,0)).2) v kr kr kr h54 (mset E12 (1,((((inS 0 (As X) 0).getD 0 (0,0)).1:Nat):Int),((inS 0 (As X) 0).getD 0 (0,0)).2) v) rfl ?_
  intro _ h56
  refine⟨kd [],nxN ?_⟩
  have h57:=h56.e.t7
  refine go [rd 10 0 1 0 3 h56]<|sA [iV 1,iV ((((inS 0 (As X) 0).getD 0 (0,0)).1:Nat):Int),uV (((inS 0 (As X) 0).getD 0 (0,0)).2)] h57 fun w58 h59=>g0 ?_
  have ho_:=opn_ok (X:=X) (v:=v) ⟨by omega,by omega⟩ (get_zero om)
  have h61:sat g _ (Fd b n (X.set ((inS 0 (As X) 0).getD 0 (0,0)).1 (1,((inS 0 (As X) 0).getD 0 (0,0)).2,v))::_):=fd_close (nums_open hN13.1) om (as_set X _ (1,_,v)).symm rfl h59.a.d.e.t7
  exact en (.tuple #[.agg #[iV 1,iV ((((inS 0 (As X) 0).getD 0 (0,0)).1:Nat):Int),uV (((inS 0 (As X) 0).getD 0 (0,0)).2)],iV 0]) [rd 0 0 0 0 3 h59] ⟨_,[Fd b n (X.set ((inS 0 (As X) 0).getD 0 (0,0)).1 (1,((inS 0 (As X) 0).getD 0 (0,0)).2,v))],rfl,⟨by rw[ho_.1,ho_.2.1],by rw[ho_.2.2]⟩,h61.d.a.t2⟩
 refine cl1 call207 (take_n s10 n (As X) om) h21.b.t5 fun _ h65=>g0<|nP 148 [iV 0,uV 0] h65 (fun r66 _ h68=> ?_)
 refine sA [iV 0,uV 0] h68 fun _ h70=> ?_
 have h71:=h70.c.t6
 refine g0<|sA [iV 0,iV 0,uV 0] h71 fun w72 h73=>g0 ?_
 have ho_:=opn_full (X:=X) (v:=v) ⟨by omega,by omega⟩ om
 have h75:sat g _ (Fd b n X::_):=fd_close hN13.1 om rfl rfl h73.d.c.d.t6
 exact en (.tuple #[.agg #[iV 0,iV 0,uV 0],iV 4]) [rd 0 0 0 0 3 h73] ⟨_,[Fd b n X],rfl,⟨by rw[ho_.1,ho_.2.1],by rw[ho_.2.2]⟩,h75.c.a.t2⟩
theorem fclose_ht(b n:Nat)(X:Xs)(x y z:Int)(hz0:0≤z)(hz1:z≤4294967295):HQ 244 [pV b,.agg #[iV x,iV y,uV z]] [Fd b n X] (iV (errA (As X) (x,y,z))) [Fd b n (clsX X (x,y,z))]:=by
 refine hiS func244 ntmps244 fun g w0 R h0=> ?_
 obtain⟨s10,m11,E12,hN13,h14⟩:=fd_open h0
 have hn64_:=hN13.2
 have hb15:=tb_bd (j:=1) h14 rfl
 have hAl_:=hb15.1;have hn1_:=hb15.2.1;have hok_:=hb15.2.2.2
 refine g0<|nP 177 [pV b] h14 (fun r16 _ h18=> ?_)
 refine nP 72 [iV x,iV y,uV z] h18 (fun r19 _ h21=> ?_)
 refine g0<|nP 38 [iV 0] h21 (fun r22 _ h24=> ?_)
 have hbd_:=chk_bd (As X) (x,y,z)
 have h25:=h24.d.d.b.d.t7
 refine go [rd 2 0 2 0 1 h24,rd 2 1 1 0 3 h24]<|cl4 call277 (with_c r16 0 r22 0 b s10 m11 n (As X) E12 x y z om om) h25 fun w26 h27=>go [.s 3 1] ?_
 by_cases c28:(errA (As X) (x,y,z))=0
 ·
  refine go [.v 3 1 (qnF (errA (As X) (x,y,z)) 0)]<|dw (fls [0,1,2,3,4] (Tr.an 5 Tr.nil)) h27 fun _ h30=> ?_
  have h31:=h30.e.t7
  refine go [rd 5 0 0 0 1 h30,rd 5 3 2 1 1 h30,rd 5 4 4 0 3 h30] ?_
  refine actG ?_
  refine an_delete (t:=257) (t2:=72) (d:=none) (m:=Ot 17) (x:=Ot 18) kr underlying257 keyok (x,y,z) kr kr h31 kr (mdel E12 (x,y,z)) rfl ?_
  intro w32 h33
  refine⟨_,rfl,?_⟩
  have h34:sat g w32 [Mp m11 (mdel E12 (x,y,z)),Cl r16 [pV b] 177,Cl r22 [iV 0] 38,Cl b [pV s10,.map (some m11)] 259,Tb s10 n (clsA (As X) (x,y,z)),Cl r19 [iV x,iV y,uV z] 72,R]:=h33
  refine⟨kd [],nxN ?_⟩
  refine go [rd 6 0 2 0 1 h34] ?_
  have h36:sat g _ (Fd b n (clsX X (x,y,z))::_):=fd_close (nums_close hN13.1) om (clsA_as X _) (clsm_ok om) h34.d.d.t7
  exact en (iV 0) [] ⟨_,_,rfl,⟨by rw[show errA (As X) (x,y,z)=0 from by omega],rfl⟩,h36.d.a.t2⟩
 refine go [.v 3 1 (qnT (errA (As X) (x,y,z)) 0)] ?_
 have h39:sat g _ (Fd b n (clsX X (x,y,z))::_):=fd_close (nums_close hN13.1) om (clsA_as X _) (clsm_no om) h27.e.d.d.t7
 exact enR (iV (errA (As X) (x,y,z))) [] h39.d.a.t2
theorem fcopy_ht(b n:Nat)(X:Xs):HT prog 114 [pV b] [Fd b n X] (fun v K=> ∃b2:Nat,v=pV b2∧K= [Fd b n X,Fd b2 n X]):=by
 refine hiS func114 ntmps114 fun g w0 R h0=> ?_
 obtain⟨s10,m11,E12,hN13,h14⟩:=fd_open h0
 have hn64_:=hN13.2
 have hb15:=tb_bd (j:=1) h14 rfl
 have hAl_:=hb15.1;have hn1_:=hb15.2.1;have hok_:=hb15.2.2.2
 refine g0<|cl1 call188 (made_y b s10 m11) h14 fun _ h17=>g0<|dw (fls [0,1,2,3,5,6,7,8] (Tr.an 4 (Tr.an 9 (Tr.fl 10 (Tr.an 11 (Tr.fl 12 Tr.nil)))))) h17 fun _ h19=> ?_
 have h21:=h19.a.t4
 refine go [rd 3 3 0 0 1 h19,rd 3 8 0 1 1 h19]<|cG call182 (scopy_ht s10 n (As X)) h21 ?_
 rintro v K _ (⟨b20,rfl,rfl⟩) h23
 have h24:=ap2 h23
 refine⟨kd [rd 0 8 2 1 1 h24],?_⟩
 refine cG call189 (mclone m11 E12) h24.c.t5 ?_
 rintro v K _ (⟨m25,rfl,rfl⟩) h28
 have h29:=ap2 h28
 refine⟨kd [],?_⟩
 refine g0<|nG (fun q_=>pV q_) 259 [pV b20,.map (some m25)] h29 (fun r30 w31 h32=>⟨kd [],?_⟩)
 refine g0 ?_
 have h34:sat g _ (Fd r30 n X::_):=fd_close hN13.1 om rfl rfl h32.b.d.b.t7
 have h36:sat g _ (Fd b n X::_):=fd_close hN13.1 om rfl rfl h34.a.b.c.t5
 exact en (pV r30) [] ⟨_,_,rfl,⟨r30,rfl,rfl⟩,h36⟩
theorem fall_ht(b n:Nat)(X:Xs):HT prog 317 [pV b] [Fd b n X] (fun v K=> ∃(p:Option Addr) (c:Nat),v= .slice p ((inS 1 (As X) 0).length) c∧K= [Fd b n X,Sl 72 3 p ((inS 1 (As X) 0).length) c (fl eO (allX X))]):=by
 refine hiS func317 ntmps317 fun g w0 R h0=> ?_
 obtain⟨s10,m11,E12,hN13,h14⟩:=fd_open h0
 have hn64_:=hN13.2
 have hb15:=tb_bd (j:=1) h14 rfl
 have hAl_:=hb15.1;have hn1_:=hb15.2.1;have hok_:=hb15.2.2.2
 refine g0<|cl1 call188 (made_y b s10 m11) h14 fun _ h17=> ?_
 have h20:=h17.a.t4
 refine go [rd 4 3 0 0 1 h17]<|cP call293 (taken_ht s10 n (As X)) h20 ?_
 rintro v K w21 (⟨p18,c19,rfl,rfl⟩) h22
 have h23:=ap2 h22
 refine g0 ?_
 have hl_:((inS 1 (As X) 0).length)≤64:=by have h1_:=inS_len 1 (As X) 0;omega
 have h24:sat g _ (Sl 72 3 none 0 0 (fl eO [])::_):=sl_nil 72 3 h23
 refine lpS (fun mz_ a w=> ∃i:Nat,∃p2:Option Addr,∃c2:Nat,∃lr:Fr,mz_=((inS 1 (As X) 0).length)-i∧(i≤((inS 1 (As X) 0).length))∧a=mk 26 (([(3,.slice p2 i c2),(13,.slice p18 ((inS 1 (As X) 0).length) c19),(14,iV (((inS 1 (As X) 0).length:Nat):Int)),(15,iV (i:Int))]:Fr)++lr)∧sat g w [Sl 72 3 p2 i c2 (fl eO (((inS 1 (As X) 0).take i).map (fun r:Nat×Int=>((1,(r.1:Int),r.2):Ky)))),Sl 148 2 p18 ((inS 1 (As X) 0).length) c19 (fl eRf (inS 1 (As X) 0)),Cl b [pV s10,.map (some m11)] 259,Tb s10 n (As X),Mp m11 E12,R]) (((inS 1 (As X) 0).length)-0) ⟨0,none,0,_,rfl,(Nat.zero_le _),(lvF [.k 3 (.slice none 0 0),.k 13 (.slice p18 ((inS 1 (As X) 0).length) c19),.k 14 (iV (((inS 1 (As X) 0).length:Nat):Int)),.o 15 (oJ .i64 0 (0:Int))]),h24.c.c.b.t6⟩ ?_
 rintro m27 a28 w29 ⟨i,p2,c2,lr26,rfl,hi,rfl,h30⟩
 refine ga<|go [.s 5 0] ?_
 by_cases c31:(i:Int)<(((inS 1 (As X) 0).length:Nat):Int)
 ·
  obtain⟨b32,hp33⟩:=sl_ptr0 (j:=1) h30 rfl om
  refine go [.v 5 0 (oT _ c31),.s 6 0]<|lwP (.pointer (some ⟨b32,i*2,none⟩)) (liP (Ot 13) (Ot 15) p18 b32 0 (i:Int) ((inS 1 (As X) 0).length) c19 underlying375 2 i hp33 (i*2)) ?_
  have h34:=h30.a.t6
  have hl35:=fl_n eRf_ok dc h34
  obtain⟨x36,hx37⟩: ∃x,(inS 1 (As X) 0)[i]? =some x:=⟨_,List.getElem?_eq_getElem (by rw[hl35];omega)⟩
  refine go [.r 6 1 b32 (i*2) [iV (x36.1:Int),uV x36.2] ⟨gvc 0 h34 rfl hp33 eRf_ok 0 (iV (x36.1:Int)) hx37 (i*2),gvc 0 h34 rfl hp33 eRf_ok 1 (uV x36.2) hx37 (i*2+1),trivial⟩]<|nP 148 [iV 0,uV 0] h34 (fun r38 _ h40=> ?_)
  refine sA [iV (x36.1:Int),uV x36.2] h40 fun _ h42=>go [rd 7 1 0 0 2 h42]<|cl0 call253 (ffile (x36.1:Int) x36.2) h42 fun _ h44=>nG (fun q_=> .slice (some ⟨q_,0,none⟩) 1 1) 72 [iV 1,iV (x36.1:Int),uV x36.2] h44 (fun r45 _ h47=>⟨kd [],?_⟩)
  have h48:=h47.c.t8
  refine actG ?_
  refine aA 23 3 (Ot 19) (Ot 22) (.agg #[iV 0,iV 0,uV 0]) p2 i c2 1 1 (⟨r45,0,none⟩) 24 underlying314 h48 (fl eO [(1,(x36.1:Int),x36.2)]) rfl (cell1 h48 rfl) (fl_one eO_ok _) (i+1) ?_
  intro p49 cap50 w51 h52
  have h53:sat g _ (Sl 72 3 p49 (i+1) cap50 (fl eO ((((inS 1 (As X) 0).take i).map (fun r:Nat×Int=>((1,(r.1:Int),r.2):Ky)))++ [(1,(x36.1:Int),x36.2)]))::_):=sJ h52
  obtain⟨hn54,hn55⟩:=sl_le h53
  refine nxA<|go [.v 8 0 (oIr ((i:Int)+1))] ?_
  refine enL ?_
  have h56:sat g _ (Sl 72 3 p49 (i+1) cap50 (fl eO (((inS 1 (As X) 0).take (i+1)).map (fun r:Nat×Int=>((1,(r.1:Int),r.2):Ky))))::_):=sat_imp h53 (fun _ hh_=>by rw[show (((((inS 1 (As X) 0).take i).map (fun r:Nat×Int=>((1,(r.1:Int),r.2):Ky)))++ [(1,(x36.1:Int),x36.2)]):List Ky)=(((inS 1 (As X) 0).take (i+1)).map (fun r:Nat×Int=>((1,(r.1:Int),r.2):Ky))) from tk_map (fun r:Nat×Int=>((1,(r.1:Int),r.2):Ky)) hx37] at hh_;exact hh_)
  have h58:=tk6 h56.x.x.x.x.x.e.t8
  change ∃n',n'<_∧_
  refine⟨(((inS 1 (As X) 0).length)-(i+1)),by omega,(i+1),p49,cap50,_,rfl,om,(lvF [.k 3 (.slice p49 (i+1) cap50),.k 13 (.slice p18 ((inS 1 (As X) 0).length) c19),.k 14 (iV (((inS 1 (As X) 0).length:Nat):Int)),.o 15 (oJ .i64 ((i:Int)+1) (((i+1):Nat):Int))]),h58⟩
 refine go [.v 5 0 (oF _ c31)]<|up<|g0 ?_
 have h59:sat g _ (Sl 72 3 p2 i c2 (fl eO (allX X))::_):=sat_imp h30 (fun _ hh_=>by rw[show ((((inS 1 (As X) 0).take i).map (fun r:Nat×Int=>((1,(r.1:Int),r.2):Ky))):List Ky)=(allX X) from (tk_all_map _ om)] at hh_;exact hh_)
 have hi_:i=((inS 1 (As X) 0).length):=by omega
 have h60:sat g _ (Sl 72 3 p2 ((inS 1 (As X) 0).length) c2 (fl eO (allX X))::_):=sat_imp h59 (fun _ hh_=>by rw[hi_] at hh_;exact hh_)
 have h62:sat g _ (Fd b n X::_):=fd_close hN13.1 om rfl rfl h60.d.d.d.t6
 exact en (.slice p2 i c2) [] ⟨_,_,rfl,⟨p2,c2,by rw[hi_],rfl⟩,h62.C.t3⟩
def ix(z:Int):Int:=if z=111 then 0 else if z=108 then 1 else if z=102 then 2 else -1
def cd(b:UInt8):Int:=ix (b.toNat:Int)+1
def gl:List UInt8→Nat
 | []=>0
 |b::l=>if cd b=0 then 0 else gl l+1
def prs(l:List UInt8):List Int×Int:=if 2000<l.length then ([],11) else if gl l<l.length then ([],9) else (l.map cd,0)
theorem ix_bd(z:Int): -1≤ix z∧ix z≤2:=by unfold ix;(repeat split)<;>omega
theorem gl_le(l:List UInt8):gl l≤l.length:=by
 induction l with
 |nil=>simp[gl]
 |cons b l ih=>simp only[gl];split<;>simp<;>omega
theorem gl_at: ∀ {l:List UInt8} {i:Nat} {x:UInt8},i<gl l→l[i]? =some x→cd x≠0
 |b::l,0,x,h,hx=>by
  simp only[gl] at h
  simp only[List.getElem?_cons_zero,Option.some.injEq] at hx
  subst hx
  split at h
  · omega
  · assumption
 |b::l,i+1,x,h,hx=>by
  simp only[gl] at h
  split at h
  · omega
  · exact gl_at (l:=l) (i:=i) om (by simpa using hx)
theorem gl_go: ∀ {l:List UInt8} {i:Nat} {x:UInt8},i≤gl l→l[i]? =some x→cd x≠0→i<gl l
 | [],i,x,_,hx,_=>by simp at hx
 |b::l,0,x,_,hx,hc=>by
  simp only[List.getElem?_cons_zero,Option.some.injEq] at hx
  subst hx
  simp[gl,hc]
 |b::l,i+1,x,h,hx,hc=>by
  simp only[gl] at h ⊢
  split at h
  · omega
  · rename_i hb
    rw[if_neg hb]
    have:=gl_go (l:=l) (i:=i) om (by simpa using hx) hc
    omega
theorem gl_stop{l:List UInt8}{i:Nat}{x:UInt8}(h:i≤gl l)(hx:l[i]? =some x)(hc:cd x=0):i=gl l:=by
 rcases Nat.lt_or_ge i (gl l) with h1|h1
 · exact absurd hc (gl_at h1 hx)
 · omega
theorem tk_eq{α β:Type}{f:α→β}{l:List α}{i:Nat}{x:α}{z:β}(hx:l[i]? =some x)(hz:f x=z):(l.take i).map f++ [z]=(l.take (i+1)).map f:=by
 subst hz
 rw[List.take_add_one,List.map_append,hx]
 rfl
theorem tk_all{α β:Type}{f:α→β}{l:List α}{n:Nat}(h:l.length≤n):(l.take n).map f=l.map f:=by rw[List.take_of_length_le h]
theorem cd1{x:UInt8}(h:(x.toNat:Int)=111):cd x=1:=by unfold cd ix;rw[if_pos h];rfl
theorem cd2{x:UInt8}(h:(x.toNat:Int)=108):cd x=2:=by unfold cd ix;rw[if_neg om,if_pos h];rfl
theorem cd3{x:UInt8}(h:(x.toNat:Int)=102):cd x=3:=by unfold cd ix;rw[if_neg om,if_neg om,if_pos h];rfl
theorem cd0{x:UInt8}(h1:(x.toNat:Int)≠111)(h2:(x.toNat:Int)≠108)(h3:(x.toNat:Int)≠102):cd x=0:=by unfold cd ix;rw[if_neg h1,if_neg h2,if_neg h3];rfl
theorem cd_bd(x:UInt8):0≤cd x∧cd x≤3:=by have:=ix_bd (x.toNat:Int);unfold cd;omega
theorem prs_many{l:List UInt8}(h:2000<l.length):prs l=([],11):=by unfold prs;rw[if_pos h]
theorem prs_form{l:List UInt8}(h:l.length≤2000)(h2:gl l<l.length):prs l=([],9):=by unfold prs;rw[if_neg om,if_pos h2]
theorem prs_ok{l:List UInt8}(h:l.length≤2000)(h2:l.length≤gl l):prs l=(l.map cd,0):=by unfold prs;rw[if_neg om,if_neg om]
theorem prs_len(l:List UInt8):(prs l).1.length≤2000:=by
 unfold prs
 split
 · simp
 · split
   · simp
   · simp;omega
def lt(z:Int):UInt8:=if z=1 then 111 else if z=2 then 108 else 102
theorem lt1{z:Int}(h:z=1):lt z=111:=by subst h;rfl
theorem lt2{z:Int}(h:z=2):lt z=108:=by subst h;rfl
theorem lt3{z:Int}(h:z=3):lt z=102:=by subst h;rfl
def addE(L:List Int)(l:List UInt8):Int:=if (prs l).2≠0 then (prs l).2 else if 2000<L.length+(prs l).1.length then 11 else 0
def addL(L:List Int)(l:List UInt8):List Int:=if addE L l=0 then L++(prs l).1 else L
theorem add_err{L:List Int}{l:List UInt8}(h:(prs l).2≠0):addE L l=(prs l).2∧addL L l=L:=by
 have h1:addE L l=(prs l).2:=by unfold addE;rw[if_pos h]
 exact⟨h1,by unfold addL;rw[if_neg (by rw[h1];exact h)]⟩
theorem add_many{L:List Int}{l:List UInt8}(h:(prs l).2=0)(h2:2000<L.length+(prs l).1.length):addE L l=11∧addL L l=L:=by
 have h1:addE L l=11:=by unfold addE;rw[if_neg om,if_pos h2]
 exact⟨h1,by unfold addL;rw[if_neg om]⟩
theorem add_ok{L:List Int}{l:List UInt8}(h:(prs l).2=0)(h2:L.length+(prs l).1.length≤2000):addE L l=0∧addL L l=L++(prs l).1:=by
 have h1:addE L l=0:=by unfold addE;rw[if_neg om,if_neg om]
 exact⟨h1,by unfold addL;rw[if_pos h1]⟩
theorem addL_len{L:List Int}{l:List UInt8}(h:L.length≤2000):(addL L l).length≤2000:=by
 by_cases h1:(prs l).2=0
 · rcases Nat.lt_or_ge 2000 (L.length+(prs l).1.length) with h2|h2
   · rw[(add_many h1 h2).2];exact h
   · rw[(add_ok h1 h2).2,List.length_append];exact h2
 · rw[(add_err h1).2];exact h
theorem hd_tl{L:List Int}{x:Int}(h:L[0]? =some x):L.headD 1=x:=by
 cases L with
 |nil=>simp at h
 |cons y L=>simpa using h
theorem tl_drop(L:List Int):L.drop 1=L.tail:=by simp
end Go.Proofs.YtehlamblpekmkaaGreatDoor
