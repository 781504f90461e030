/- Walks, printed by my generator t8.py. -/
import Derived.Test.YtcgkoffnknpgjaaGreatDoorBundle42
import Derived.Test.YtcgkoffnknpgjaaGreatDoorHq
namespace Go.Proofs.YtcgkoffnknpgjaaGreatDoor
set_option linter.unusedVariables false
set_option linter.unusedSimpArgs false
open Tryz
set_option maxHeartbeats 4000000
theorem ut8_1_Done(c a:Nat)(b d:Int)(hf0:0≤(a:Int)-1)(hf1:0≤ -b+(a:Int)-1):HQ 411 [pV c] [Cl c [iV a,iV b,iV d] 263] (.bool false) [Cl c [iV a,iV b,iV d] 263]:=by
 refine hiS func411 ntmps411 fun g w0 R h0=>g0<|dw (Tr.fl 0 (Tr.an 1 (fls [2,3,4,5,6,7,8,9,10,11,12,13] Tr.nil))) h0 fun _ h11=>g0<|cw1 call179 (ut7_5_made c a b d om) h11 fun _ h13=>⟨kd [],?_⟩
 refine go [rd 1 6 0 1 1 h13,rd 1 10 0 0 1 h13,.v 1 11 (qeF b (a:Int))] ?_
 exact enR _ [] h13
theorem ut8_2_check(j l e c d:Nat)(f i:Int)(o:List Sl2)(p:Nat)(q k m:Int)(hf0:0≤(c:Int)-1)(hf1:0≤ -(c:Int)+9223372036854775808)(hf2:0≤ -k+(c:Int)-1):HQ 443 [pV j,pV l,pV e] [Mr e c d 5 f i,Ar1 l c d o p q,Cl j [iV c,iV k,iV m] 263] (iV 0) [Mr e c d 5 f i,Ar1 l c d o p q,Cl j [iV c,iV k,iV m] 263]:=by
 refine hiS func443 ntmps443 fun g w0 R h0=> ?_
 have h10:=h0.a.t4
 refine g0<|cl1 call289 (asizes1 l c d o p q) h10 fun _ h12=> ?_
 have h13:=h12.a.t4
 refine g0<|cl1 call434 (mmark e c d f 5 i 0 om om) h13 fun _ h15=> ?_
 have h16:=h15.b.t4
 refine g0<|cl1 call179 (ut7_5_made j c k m om) h16 fun _ h18=> ?_
 have h19:=h18.a.t4
 refine go [.v 3 5 (qeF (c:Int) 0),rd 5 4 0 0 1 h18,.v 5 5 (oIr ((c:Int)-1))]<|cl1 call434 (mmark e c d f 5 i ((c:Int)-1) om om) h19 fun _ h21=>go [rd 6 4 1 0 1 h21]<|cl1 call434 (mmarkx e c d f 5 i) h21 fun _ h23=> ?_
 have h24:=h23.a.t4
 refine go [rd 7 4 1 0 1 h23,.v 7 5 (qnF (c:Int) (c:Int))]<|cl1 call411 (ut8_1_Done j c k m om om) h24 fun _ h26=> ?_
 have h27:=h26.a.t4
 refine g0<|cl1 call291 (mphase e c d f 5 i) h27 fun _ h29=>g0 ?_
 exact enR _ [] h29.b.a.t4
theorem ut8_3_Step1(b:Nat)(e:Int)(d:Nat)(c:Int)(hn0:c-(b:Int)≠0):HQ 445 [.agg #[iV b,uV e],pV d] [Cl d [iV c] 3] (.bool false) [Cl d [iV c] 3]:=by
 refine hiS func445 ntmps445 fun g w0 R h0=>g0<|nP 203 [iV b,uV e] h0 (fun _ _ h12=> ?_)
 refine go [rd 1 1 0 0 1 h12,rd 1 2 1 0 1 h12,.v 1 3 (qeF (b:Int) c)] ?_
 exact enR _ [] (tk2 (sf1 (sf2 h12.a.t3)))
theorem ut8_4_Ref(d:Option Addr)(e f b:Nat)(c i:Int)(hn0:i-(b:Int)≠0):HQ 444 [.slice d 1 e,.func (Fn.func 445) #[] #[pV f]] [Sl 203 2 d 1 e (fl eRf [(b,c)]),Cl f [iV i] 3] (iV (-1)) [Sl 203 2 d 1 e (fl eRf [(b,c)]),Cl f [iV i] 3]:=by
 refine hiS func444 ntmps444 fun g w0 R h0=>go [.v 1 1 (oJ .i64 (1:Int) 1)]<|unS 39 ?_
 obtain⟨b10,hp11⟩:=sl_ptr0 (j:=0) h0 rfl om
 refine go [.s 4 3]<|lwP (pV b10) (liP (Ot 12) (Ot 13) d b10 0 0 1 e underlying392 2 0 hp11 0) ?_
 have hl12:=fl_n eRf_ok dc h0
 have h13:=h0.a.t3
 refine go [.r 4 4 b10 0 [iV b,uV c] ⟨gvc 0 h0 rfl hp11 eRf_ok 0 (iV b) (show ([(b,c)]:List (Nat×Int))[0]? =some (b,c) from rfl) 0,gvc 0 h0 rfl hp11 eRf_ok 1 (uV c) (show ([(b,c)]:List (Nat×Int))[0]? =some (b,c) from rfl) 1,trivial⟩]<|cl1 call445 (ut8_3_Step1 b c f i om) h13 fun _ h15=>g0<|unN<|g0<|up<|g0 ?_
 exact enR _ [] h15.a.t3
theorem ut8_5_Step(p m o a j:Nat)(q s:Int)(l:List Sl2)(i:Nat)(k d t:Int)(u:inS 1 l 0= [(i,k)])(hf0:0≤ -(a:Int)+9223372036854775808)(hf1:0≤ -d+9223372036854775806)(hf2:0≤d)(hf3:0≤(a:Int)-d-1)(hn0:d-(i:Int)≠0):HQ 410 [pV p,pV m,pV o] [Mr o a j 5 q s,Ar1 m a j l i k,Cl p [iV a,iV d,iV t] 263] (.tuple #[.agg #[iV 0,uV 0],.bool false,iV 0]) [Mr o a j 5 q s,Ar1 m a j l i k,Cl p [iV a,iV (d+1),iV t] 263]:=by
 refine hiS func410 ntmps410 fun g w0 R h0=>g0<|nP 203 [iV 0,uV 0] h0 (fun _ _ h12=> ?_)
 have h13:=h12.c.c.c.t5
 refine g0<|cl3 call443 (ut8_2_check p m o a j q s l i k d t om om om) h13 fun _ h15=>go [rd 4 3 2 1 1 h15]<|nP 3 [iV 0] h15 (fun r16 _ h18=> ?_)
 refine sA [iV d] h18 fun _ h20=> ?_
 have h21:=h20.c.t6
 refine go [rd 5 3 3 1 1 h20,.v 5 4 (oIr (d+1))]<|sP [(1,iV (d+1))] [iV a,iV (d+1),iV t] h21 fun _ h23=> ?_
 have h26:=h23.c.t6
 refine g0<|cP call266 (aheap1 m a j l i k) h26 ?_
 rintro v K _ (⟨h24,t25,rfl,rfl⟩) h28
 refine cP call435 (ut7_1_All h24 a l i k t25 u) ((ap3 h28).b.b.t8) ?_
 rintro v K _ (⟨p30,c31,rfl,rfl⟩) h34
 have h36:=(ap3 h34).e.c.t9
 refine g0<|cl2 call444 (ut8_4_Ref p30 c31 r16 i k d om) h36 fun _ h38=> ?_
 have h39:=h38.f.t9
 refine go [rd 8 1 1 0 1 h38]<|cl1 call434 (mmark o a j q 5 s d om om) h39 fun _ h41=> ?_
 have h42:=h41.x.t9
 refine g0<|sA [iV 0,uV 0] h42 fun _ h44=>g0 ?_
 exact enR _ [rd 0 0 0 0 2 h44] (tk4 (sf3 (sf3 (sf3 (sf8 h44.x.x.c.t9)))))
theorem ut8_6_sweep(u o:Nat)(A:Int)(k b i:Nat)(s t:Int)(j:Nat)(x y:Int)(p:List Sl2)(l:Nat)(q f m:Int)(z:inS 1 p 0= [(l,q)])(hf0:0≤ -(b:Int)+9223372036854775808)(hf1:0≤f)(hf2:0≤ -f+(b:Int)-2)(hn0:f-(l:Int)≠0):HQ 367 [pV u,pV o,iV A] [Mr k b i 5 s t,Cl u [pV k,pV j,iV b,iV i,iV x,iV y,.bool false] 158,Ar1 o b i p l q,Cl j [iV b,iV f,iV m] 263] (.tuple #[.agg #[iV 0,uV 0],.bool false,iV 0]) [Mr k b i 5 s t,Cl u [pV k,pV j,iV b,iV i,iV x,iV y,.bool false] 158,Ar1 o b i p l q,Cl j [iV b,iV (f+1),iV m] 263]:=by
 refine hiS func367 ntmps367 fun g w0 R h0=>g0<|nP 203 [iV 0,uV 0] h0 (fun _ _ h12=> ?_)
 refine g0<|dw (fls [0,1,2,3,4,5,6,7,8] (Tr.an2 9 (fls [10,11,12,13] (Tr.an 14 (Tr.an 15 (fls [16,17] Tr.nil)))) 14 (Tr.an 9 (fls [10,11,12,13] (Tr.an 15 (fls [16,17] Tr.nil)))))) h12 fun _ h14=>go [rd 1 3 2 1 1 h14,rd 1 8 2 0 1 h14] ?_
 refine br2 ?_ ?_
 ·
  refine cw3 call410 (ut8_5_Step j o k b i s t p l q f m z om om om om om) h14.d.d.c.t6 fun _ h17=>⟨kd [],?_⟩
  refine g0<|nG (fun q_=>pV q_) 203 [iV 0,uV 0] h17 (fun _ _ h20=>⟨kd [],?_⟩)
  refine sB [iV 0,uV 0] h20 fun _ h22=>⟨kd [],?_⟩
  have h23:=h22.c.t7
  refine go [rd 2 6 5 1 1 h22]<|cl1 call411 (ut8_1_Done j b (f+1) m om om) h23 fun _ h25=> ?_
  have h26:=h25.d.t7
  refine g0<|sA [iV 0,uV 0] h26 fun _ h28=>g0 ?_
  exact enR _ [rd 0 0 0 0 2 h28] (tk5 (sf4 (sf4 (sf4 (sf4 (sf6 h28.a.d.e.e.t7))))))
 refine nG (fun q_=>pV q_) 203 [iV 0,uV 0] h14 (fun _ _ h33=>⟨kd [rd 0 8 3 0 1 h33,rd 0 3 3 1 1 h33],?_⟩)
 refine cw3 call410 (ut8_5_Step j o k b i s t p l q f m z om om om om om) h33.e.e.d.t7 fun _ h36=>⟨kd [],?_⟩
 have h37:=h36.c.t7
 refine g0<|sB [iV 0,uV 0] h37 fun _ h39=>⟨kd [],?_⟩
 have h40:=h39.c.t7
 refine go [rd 2 6 5 1 1 h39]<|cl1 call411 (ut8_1_Done j b (f+1) m om om) h40 fun _ h42=> ?_
 have h43:=h42.d.t7
 refine g0<|sA [iV 0,uV 0] h43 fun _ h45=>g0 ?_
 exact enR _ [rd 0 0 0 0 2 h45] (tk5 (sf4 (sf4 (sf4 (sf4 (sf6 h45.a.d.e.e.t7))))))
theorem cyst5(b n m:Nat)(cy sn at_ nx bg:Int)(ar:Nat)(A:List Sl2)(s:Nat)(gn rm:Int)(hf0:0≤nx)(hf1:0≤(n:Int)-nx-2)(hf2:0≤rm)(hn0:nx-(s:Int)≠0):HQ 213 [pV b,pV ar,iV rm] [Cy b n m 5 cy sn at_ nx bg,Ar1 ar n m A s gn] (.tuple #[.agg #[iV 0,uV 0],.bool false,iV 0]) [Cy b n m 5 cy sn at_ (nx+1) bg,Ar1 ar n m A s gn]:=by
 refine hiS func213 ntmps213 fun g w0 R h0=> ?_
 have h10:=h0.a.t3
 have hin11:=Ar1_in h10;have hin11s:=hin11.2.1;have hin11g:=hin11.2.2
 obtain⟨mk13,sw14,tl15,hp16,hp17,hp18,hp19,hp20,h21⟩:=Cy_open h10.a.t3
 have h22:sat g _ (Cl b [pV mk13,pV sw14,iV n,iV m,iV at_,iV bg,.bool false] 158::_):=h21
 refine g0<|nP 203 [iV 0,uV 0] h22 (fun r23 _ h25=> ?_)
 have h26:=h25.d.t6
 refine g0<|cl1 call289 (asizes1 ar n m A s gn) h26 fun _ h28=> ?_
 have h29:=h28.b.t6
 refine g0<|cl1 call114 (ut6_2_valid b mk13 sw14 n m at_ bg) h29 fun _ h31=>go [.v 2 5 (qeF (n:Int) 0),rd 4 4 0 2 1 h31,.v 4 5 (qnF (n:Int) (n:Int)),rd 4 11 0 3 1 h31,.v 4 12 (qnF (m:Int) (m:Int)),.v 4 16 (oF (rm<0))]<|dw (fls [1,2,3,4,7,8,9] (Tr.an 0 (Tr.an 5 (Tr.fl 6 (Tr.an 10 (fls [11,12,13] (Tr.an 14 (fls [15,16] Tr.nil)))))))) h31 fun _ h33=>go [rd 6 4 0 0 1 h33]<|cw0 call290 ut6_4_steps h33 fun _ h35=>⟨kd [rd 0 4 0 0 1 h35],?_⟩
 refine cw1 call291 (mphase mk13 n m cy 5 sn) h35.c.t6 fun _ h38=>⟨kd [],?_⟩
 have h39:=h38.d.c.c.c.t6
 refine g0<|cw4 call367 (ut8_6_sweep b ar rm mk13 n m cy sn sw14 at_ bg A s gn nx tl15 hin11.1 om om om om) h39 fun _ h41=>⟨kd [],?_⟩
 have h42:=h41.d.t6
 refine g0<|sB [iV 0,uV 0] h42 fun w43 h44=>⟨kd [],?_⟩
 refine g0 ?_
 obtain⟨tl_,htl_⟩: ∃z_:Int,z_=tl15:=⟨_,rfl⟩
 have h46:sat g w43 [Cl sw14 [iV n,iV (nx+1),iV tl_] 263,Cl r23 [iV 0,uV 0] 203,Mr mk13 n m 5 cy sn,Cl b [pV mk13,pV sw14,iV n,iV m,iV at_,iV bg,.bool false] 158,Ar1 ar n m A s gn,R]:=by rw[htl_];exact h44.d.t6
 have h48:sat g _ (Cy b n m 5 cy sn at_ (nx+1) bg::_):=Cy_close b n m 5 cy sn at_ (nx+1) bg mk13 sw14 tl_ hp16 hp17 hp18 hp19 om h46.b.c.t6
 exact enR _ [rd 0 0 0 0 2 h44] (tk3 (sf2 (sf2 (sf3 h48.b.a.t4))))
theorem ut8_7_Step1(b:Nat)(d:Int)(c:Nat):HQ 445 [.agg #[iV b,uV d],pV c] [Cl c [iV b] 3] (.bool true) [Cl c [iV b] 3]:=by
 refine hiS func445 ntmps445 fun g w0 R h0=>g0<|nP 203 [iV b,uV d] h0 (fun _ _ h12=> ?_)
 refine go [rd 1 1 0 0 1 h12,rd 1 2 1 0 1 h12,.v 1 3 (qeT (b:Int) (b:Int))] ?_
 exact enR _ [] (tk2 (sf1 (sf2 h12.a.t3)))
theorem ut8_8_Ref(d:Option Addr)(e f b:Nat)(c:Int):HQ 444 [.slice d 1 e,.func (Fn.func 445) #[] #[pV f]] [Sl 203 2 d 1 e (fl eRf [(b,c)]),Cl f [iV b] 3] (iV 0) [Sl 203 2 d 1 e (fl eRf [(b,c)]),Cl f [iV b] 3]:=by
 refine hiS func444 ntmps444 fun g w0 R h0=>go [.v 1 1 (oJ .i64 (1:Int) 1)]<|unS 39 ?_
 obtain⟨b10,hp11⟩:=sl_ptr0 (j:=0) h0 rfl om
 refine go [.s 4 3]<|lwP (pV b10) (liP (Ot 12) (Ot 13) d b10 0 0 1 e underlying392 2 0 hp11 0) ?_
 have hl12:=fl_n eRf_ok dc h0
 have h13:=h0.a.t3
 refine go [.r 4 4 b10 0 [iV b,uV c] ⟨gvc 0 h0 rfl hp11 eRf_ok 0 (iV b) (show ([(b,c)]:List (Nat×Int))[0]? =some (b,c) from rfl) 0,gvc 0 h0 rfl hp11 eRf_ok 1 (uV c) (show ([(b,c)]:List (Nat×Int))[0]? =some (b,c) from rfl) 1,trivial⟩]<|cl1 call445 (ut8_7_Step1 b c f) h13 fun _ h15=>g0<|up<|g0 ?_
 exact enR _ [] h15.a.t3
theorem ut8_9_note(b c d:Nat)(a:Int)(hf0:0≤a+9223372036854775809)(hf1:0≤ -a+9223372036854775806):HQ 448 [.pointer (some ⟨b,2,none⟩)] [Cl b [iV c,iV ((d:Int)+1),iV a] 263] (.tuple #[]) [Cl b [iV c,iV ((d:Int)+1),iV (a+1)] 263]:=by
 refine hiS func448 ntmps448 fun g w0 R h0=>go [rd 0 3 0 2 1 h0,.v 0 4 (oIr (a+1))]<|sP [(2,iV (a+1))] [iV c,iV ((d:Int)+1),iV (a+1)] h0 fun _ h11=>g0 ?_
 exact enR _ [] h11
theorem ut8_10_Step(t p q k l:Nat)(u y:Int)(m:List Sl2)(d:Nat)(i o:Int)(z:inS 1 m 0= [(d,i)])(hf0:0≤ -(k:Int)+9223372036854775808)(hf1:0≤ -(d:Int)+9223372036854775806)(hf2:0≤(k:Int)-(d:Int)-1)(hf3:0≤o+9223372036854775809)(hf4:0≤ -o+9223372036854775806):HQ 410 [pV t,pV p,pV q] [Mr q k l 5 u y,Ar1 p k l m d i,Cl t [iV k,iV d,iV o] 263] (.tuple #[.agg #[iV d,uV i],.bool true,iV 0]) [Mr q k l 5 u y,Ar0 p k l (giveA m d i),Cl t [iV k,iV ((d:Int)+1),iV (o+1)] 263]:=by
 refine hiS func410 ntmps410 fun g w0 R h0=>g0<|nP 203 [iV 0,uV 0] h0 (fun _ _ h12=> ?_)
 have h13:=h12.c.c.c.t5
 refine g0<|cl3 call443 (ut8_2_check t p q k l u y m d i (d:Int) o om om om) h13 fun _ h15=>go [rd 4 3 2 1 1 h15]<|nP 3 [iV 0] h15 (fun r16 _ h18=> ?_)
 refine sA [iV d] h18 fun _ h20=> ?_
 have h21:=h20.c.t6
 refine go [rd 5 3 3 1 1 h20,.v 5 4 (oIr ((d:Int)+1))]<|sP [(1,iV ((d:Int)+1))] [iV k,iV ((d:Int)+1),iV o] h21 fun _ h23=> ?_
 have h26:=h23.c.t6
 refine g0<|cP call266 (aheap1 p k l m d i) h26 ?_
 rintro v K _ (⟨h24,t25,rfl,rfl⟩) h28
 refine cP call435 (ut7_1_All h24 k m d i t25 z) ((ap3 h28).b.b.t8) ?_
 rintro v K _ (⟨p30,c31,rfl,rfl⟩) h34
 have h36:=(ap3 h34).e.c.t9
 refine g0<|cl2 call444 (ut8_8_Ref p30 c31 r16 d i) h36 fun _ h38=> ?_
 have h39:=h38.f.t9
 refine go [rd 8 1 1 0 1 h38]<|cl1 call434 (mmark q k l u 5 y (d:Int) om om) h39 fun _ h41=> ?_
 obtain⟨b42,hp43⟩:=sl_ptr0 (j:=1) h41 rfl om
 refine go [.s 11 3]<|lwP (pV b42) (liP (Ot 53) (Ot 54) p30 b42 0 0 1 c31 underlying392 2 0 hp43 0) ?_
 have h44:=h41.a.t9
 have hl45:=fl_n eRf_ok dc h44
 have h46:=h44.e.t9
 refine go [.r 11 4 b42 0 [iV d,uV i] ⟨gvc 0 h44 rfl hp43 eRf_ok 0 (iV d) (show ([(d,i)]:List (Nat×Int))[0]? =some (d,i) from rfl) 0,gvc 0 h44 rfl hp43 eRf_ok 1 (uV i) (show ([(d,i)]:List (Nat×Int))[0]? =some (d,i) from rfl) 1,trivial⟩]<|cl1 call446 (afree_ht p k l m d i) h46 fun _ h48=> ?_
 have h49:=h48.b.t9
 refine go [rd 12 1 3 0 1 h48]<|cl1 call447 (mfreed q k l u 5 y (d:Int) om om) h49 fun _ h51=> ?_
 have h52:=h51.f.t9
 refine g0<|cl1 call448 (ut8_9_note t k d o om om) h52 fun _ h54=>go [.s 14 2]<|lwP (pV b42) (liP (Ot 65) (Ot 66) p30 b42 0 0 1 c31 underlying392 2 0 hp43 0) ?_
 have h55:=h54.x.t9
 refine go [.r 14 3 b42 0 [iV d,uV i] ⟨gvc 3 h54 rfl hp43 eRf_ok 0 (iV d) (show ([(d,i)]:List (Nat×Int))[0]? =some (d,i) from rfl) 0,gvc 3 h54 rfl hp43 eRf_ok 1 (uV i) (show ([(d,i)]:List (Nat×Int))[0]? =some (d,i) from rfl) 1,trivial⟩]<|sA [iV d,uV i] h55 fun _ h57=>g0 ?_
 exact enR (.tuple #[.agg #[iV d,uV i],.bool true,iV 0]) [rd 0 0 0 0 2 h57] (tk4 (sf3 (sf3 (sf3 (sf8 h57.a.c.c.t9)))))
theorem ut8_11_sweep(t o:Nat)(z:Int)(m b i:Nat)(q s:Int)(j:Nat)(u x:Int)(p:List Sl2)(f:Nat)(l k:Int)(y:inS 1 p 0= [(f,l)])(hf0:0≤ -(b:Int)+9223372036854775808)(hf1:0≤k+9223372036854775809)(hf2:0≤ -k+9223372036854775806)(hf3:0≤ -(f:Int)+(b:Int)-2):HQ 367 [pV t,pV o,iV z] [Mr m b i 5 q s,Cl t [pV m,pV j,iV b,iV i,iV u,iV x,.bool false] 158,Ar1 o b i p f l,Cl j [iV b,iV f,iV k] 263] (.tuple #[.agg #[iV 0,uV 0],.bool false,iV 0]) [Mr m b i 5 q s,Cl t [pV m,pV j,iV b,iV i,iV u,iV x,.bool false] 158,Ar0 o b i (giveA p f l),Cl j [iV b,iV ((f:Int)+1),iV (k+1)] 263]:=by
 refine hiS func367 ntmps367 fun g w0 R h0=>g0<|nP 203 [iV 0,uV 0] h0 (fun _ _ h12=> ?_)
 refine g0<|dw (fls [0,1,2,3,4,5,6,7,8] (Tr.an2 9 (fls [10,11,12,13] (Tr.an 14 (Tr.an 15 (fls [16,17] Tr.nil)))) 14 (Tr.an 9 (fls [10,11,12,13] (Tr.an 15 (fls [16,17] Tr.nil)))))) h12 fun _ h14=>go [rd 1 3 2 1 1 h14,rd 1 8 2 0 1 h14] ?_
 refine br2 ?_ ?_
 ·
  refine cw3 call410 (ut8_10_Step j o m b i q s p f l k y om om om om om) h14.d.d.c.t6 fun _ h17=>⟨kd [],?_⟩
  refine g0<|nG (fun q_=>pV q_) 203 [iV 0,uV 0] h17 (fun _ _ h20=>⟨kd [],?_⟩)
  refine sB [iV f,uV l] h20 fun _ h22=>⟨kd [],?_⟩
  have h23:=h22.c.t7
  refine go [rd 2 6 5 1 1 h22]<|cl1 call411 (ut8_1_Done j b ((f:Int)+1) (k+1) om om) h23 fun _ h25=> ?_
  have h26:=h25.d.t7
  refine g0<|sA [iV 0,uV 0] h26 fun _ h28=>g0 ?_
  exact enR _ [rd 0 0 0 0 2 h28] (tk5 (sf4 (sf4 (sf4 (sf4 (sf6 h28.a.d.e.e.t7))))))
 refine nG (fun q_=>pV q_) 203 [iV 0,uV 0] h14 (fun _ _ h33=>⟨kd [rd 0 8 3 0 1 h33,rd 0 3 3 1 1 h33],?_⟩)
 refine cw3 call410 (ut8_10_Step j o m b i q s p f l k y om om om om om) h33.e.e.d.t7 fun _ h36=>⟨kd [],?_⟩
 have h37:=h36.c.t7
 refine g0<|sB [iV f,uV l] h37 fun _ h39=>⟨kd [],?_⟩
 have h40:=h39.c.t7
 refine go [rd 2 6 5 1 1 h39]<|cl1 call411 (ut8_1_Done j b ((f:Int)+1) (k+1) om om) h40 fun _ h42=> ?_
 have h43:=h42.d.t7
 refine g0<|sA [iV 0,uV 0] h43 fun _ h45=>g0 ?_
 exact enR _ [rd 0 0 0 0 2 h45] (tk5 (sf4 (sf4 (sf4 (sf4 (sf6 h45.a.d.e.e.t7))))))
theorem cyst5f(b n m:Nat)(cy sn at_ bg:Int)(ar:Nat)(A:List Sl2)(s:Nat)(gn rm:Int)(hf0:0≤(n:Int)-(s:Int)-2)(hf1:0≤rm):HQ 213 [pV b,pV ar,iV rm] [Cy b n m 5 cy sn at_ (s:Int) bg,Ar1 ar n m A s gn] (.tuple #[.agg #[iV 0,uV 0],.bool false,iV 0]) [Cy b n m 5 cy sn at_ ((s:Int)+1) bg,Ar0 ar n m (giveA A s gn)]:=by
 refine hiS func213 ntmps213 fun g w0 R h0=> ?_
 have h10:=h0.a.t3
 have hin11:=Ar1_in h10;have hin11s:=hin11.2.1;have hin11g:=hin11.2.2
 obtain⟨mk13,sw14,tl15,hp16,hp17,hp18,hp19,hp20,h21⟩:=Cy_open h10.a.t3
 have h22:sat g _ (Cl b [pV mk13,pV sw14,iV n,iV m,iV at_,iV bg,.bool false] 158::_):=h21
 refine g0<|nP 203 [iV 0,uV 0] h22 (fun r23 _ h25=> ?_)
 have h26:=h25.d.t6
 refine g0<|cl1 call289 (asizes1 ar n m A s gn) h26 fun _ h28=> ?_
 have h29:=h28.b.t6
 refine g0<|cl1 call114 (ut6_2_valid b mk13 sw14 n m at_ bg) h29 fun _ h31=>go [.v 2 5 (qeF (n:Int) 0),rd 4 4 0 2 1 h31,.v 4 5 (qnF (n:Int) (n:Int)),rd 4 11 0 3 1 h31,.v 4 12 (qnF (m:Int) (m:Int)),.v 4 16 (oF (rm<0))]<|dw (fls [1,2,3,4,7,8,9] (Tr.an 0 (Tr.an 5 (Tr.fl 6 (Tr.an 10 (fls [11,12,13] (Tr.an 14 (fls [15,16] Tr.nil)))))))) h31 fun _ h33=>go [rd 6 4 0 0 1 h33]<|cw0 call290 ut6_4_steps h33 fun _ h35=>⟨kd [rd 0 4 0 0 1 h35],?_⟩
 refine cw1 call291 (mphase mk13 n m cy 5 sn) h35.c.t6 fun _ h38=>⟨kd [],?_⟩
 have h39:=h38.d.c.c.c.t6
 refine g0<|cw4 call367 (ut8_11_sweep b ar rm mk13 n m cy sn sw14 at_ bg A s gn tl15 hin11.1 om om om om) h39 fun _ h41=>⟨kd [],?_⟩
 have h42:=h41.d.t6
 refine g0<|sB [iV 0,uV 0] h42 fun w43 h44=>⟨kd [],?_⟩
 refine g0 ?_
 obtain⟨tl_,htl_⟩: ∃z_:Int,z_=tl15+1:=⟨_,rfl⟩
 have h46:sat g w43 [Cl sw14 [iV n,iV ((s:Int)+1),iV tl_] 263,Cl r23 [iV 0,uV 0] 203,Mr mk13 n m 5 cy sn,Cl b [pV mk13,pV sw14,iV n,iV m,iV at_,iV bg,.bool false] 158,Ar0 ar n m (giveA A s gn),R]:=by rw[htl_];exact h44.d.t6
 have h48:sat g _ (Cy b n m 5 cy sn at_ ((s:Int)+1) bg::_):=Cy_close b n m 5 cy sn at_ ((s:Int)+1) bg mk13 sw14 tl_ hp16 hp17 hp18 hp19 om h46.b.c.t6
 exact enR _ [rd 0 0 0 0 2 h44] (tk3 (sf2 (sf2 (sf3 h48.b.a.t4))))
theorem ut8_12_Done(c a b:Nat)(d:Int)(hf0:0≤(a:Int)-(b:Int)+1)(hf1:0≤ -(a:Int)+(b:Int)-1):HQ 411 [pV c] [Cl c [iV b,iV ((a:Int)+1),iV (d+1)] 263] (.bool true) [Cl c [iV b,iV ((a:Int)+1),iV (d+1)] 263]:=by
 refine hiS func411 ntmps411 fun g w0 R h0=>g0<|dw (Tr.fl 0 (Tr.an 1 (fls [2,3,4,5,6,7,8,9,10,11,12,13] Tr.nil))) h0 fun _ h11=>g0<|cw1 call179 (ut7_5_made c b ((a:Int)+1) (d+1) om) h11 fun _ h13=>⟨kd [],?_⟩
 refine go [rd 1 6 0 1 1 h13,rd 1 10 0 0 1 h13,.v 1 11 (qeT ((a:Int)+1) (b:Int))] ?_
 exact enR _ [] h13
theorem ut8_13_sweep(t p:Nat)(z:Int)(j a i:Nat)(k q:Int)(l:Nat)(u x:Int)(s:List Sl2)(f:Nat)(o m:Int)(y:inS 1 s 0= [(f,o)])(hf0:0≤ -(f:Int)+9223372036854775806)(hf1:0≤m+9223372036854775809)(hf2:0≤ -m+9223372036854775806)(hf3:0≤(f:Int)-(a:Int)+1)(hf4:0≤ -(f:Int)+(a:Int)-1)(hf5:0≤k)(hf6:0≤ -k+1000000):HQ 367 [pV t,pV p,iV z] [Mr j a i 5 k q,Cl t [pV j,pV l,iV a,iV i,iV u,iV x,.bool false] 158,Ar1 p a i s f o,Cl l [iV a,iV f,iV m] 263] (.tuple #[.agg #[iV 0,uV 0],.bool false,iV 0]) [Mr j a i 0 (k+1) 0,Cl t [pV j,pV l,iV a,iV i,iV u,iV x,.bool false] 158,Ar0 p a i (giveA s f o),Cl l [iV a,iV ((f:Int)+1),iV (m+1)] 263]:=by
 refine hiS func367 ntmps367 fun g w0 R h0=>g0<|nP 203 [iV 0,uV 0] h0 (fun _ _ h12=> ?_)
 refine g0<|dw (fls [0,1,2,3,4,5,6,7,8] (Tr.an2 9 (fls [10,11,12,13] (Tr.an 14 (Tr.an 15 (fls [16,17] Tr.nil)))) 14 (Tr.an 9 (fls [10,11,12,13] (Tr.an 15 (fls [16,17] Tr.nil)))))) h12 fun _ h14=>go [rd 1 3 2 1 1 h14,rd 1 8 2 0 1 h14] ?_
 refine br2 ?_ ?_
 ·
  refine cw3 call410 (ut8_10_Step l p j a i k q s f o m y om om om om om) h14.d.d.c.t6 fun _ h17=>⟨kd [],?_⟩
  refine g0<|nG (fun q_=>pV q_) 203 [iV 0,uV 0] h17 (fun _ _ h20=>⟨kd [],?_⟩)
  refine sB [iV f,uV o] h20 fun _ h22=>⟨kd [],?_⟩
  have h23:=h22.c.t7
  refine go [rd 2 6 5 1 1 h22]<|cl1 call411 (ut8_12_Done l f a m om om) h23 fun _ h25=> ?_
  have h26:=h25.b.t7
  refine go [rd 3 3 5 0 1 h25]<|cl1 call408 (mgo5 j a i k q om om) h26 fun _ h28=> ?_
  have h29:=h28.d.t7
  refine g0<|sA [iV 0,uV 0] h29 fun _ h31=>g0 ?_
  exact enR _ [rd 0 0 0 0 2 h31] (tk5 (sf4 (sf4 (sf4 (sf4 (sf6 h31.b.d.e.d.t7))))))
 refine nG (fun q_=>pV q_) 203 [iV 0,uV 0] h14 (fun _ _ h36=>⟨kd [rd 0 8 3 0 1 h36,rd 0 3 3 1 1 h36],?_⟩)
 refine cw3 call410 (ut8_10_Step l p j a i k q s f o m y om om om om om) h36.e.e.d.t7 fun _ h39=>⟨kd [],?_⟩
 have h40:=h39.c.t7
 refine g0<|sB [iV f,uV o] h40 fun _ h42=>⟨kd [],?_⟩
 have h43:=h42.c.t7
 refine go [rd 2 6 5 1 1 h42]<|cl1 call411 (ut8_12_Done l f a m om om) h43 fun _ h45=> ?_
 have h46:=h45.b.t7
 refine go [rd 3 3 5 0 1 h45]<|cl1 call408 (mgo5 j a i k q om om) h46 fun _ h48=> ?_
 have h49:=h48.d.t7
 refine g0<|sA [iV 0,uV 0] h49 fun _ h51=>g0 ?_
 exact enR _ [rd 0 0 0 0 2 h51] (tk5 (sf4 (sf4 (sf4 (sf4 (sf6 h51.b.d.e.d.t7))))))
theorem cyst5fl(b n m:Nat)(cy sn at_ bg:Int)(ar:Nat)(A:List Sl2)(s:Nat)(gn rm:Int)(hf0:0≤(s:Int)-(n:Int)+1)(hf1:0≤cy)(hf2:0≤ -cy+1000000)(hf3:0≤rm):HQ 213 [pV b,pV ar,iV rm] [Cy b n m 5 cy sn at_ (s:Int) bg,Ar1 ar n m A s gn] (.tuple #[.agg #[iV 0,uV 0],.bool false,iV 0]) [Cy b n m 0 (cy+1) 0 at_ ((s:Int)+1) bg,Ar0 ar n m (giveA A s gn)]:=by
 refine hiS func213 ntmps213 fun g w0 R h0=> ?_
 have h10:=h0.a.t3
 have hin11:=Ar1_in h10;have hin11s:=hin11.2.1;have hin11g:=hin11.2.2
 obtain⟨mk13,sw14,tl15,hp16,hp17,hp18,hp19,hp20,h21⟩:=Cy_open h10.a.t3
 have h22:sat g _ (Cl b [pV mk13,pV sw14,iV n,iV m,iV at_,iV bg,.bool false] 158::_):=h21
 refine g0<|nP 203 [iV 0,uV 0] h22 (fun r23 _ h25=> ?_)
 have h26:=h25.d.t6
 refine g0<|cl1 call289 (asizes1 ar n m A s gn) h26 fun _ h28=> ?_
 have h29:=h28.b.t6
 refine g0<|cl1 call114 (ut6_2_valid b mk13 sw14 n m at_ bg) h29 fun _ h31=>go [.v 2 5 (qeF (n:Int) 0),rd 4 4 0 2 1 h31,.v 4 5 (qnF (n:Int) (n:Int)),rd 4 11 0 3 1 h31,.v 4 12 (qnF (m:Int) (m:Int)),.v 4 16 (oF (rm<0))]<|dw (fls [1,2,3,4,7,8,9] (Tr.an 0 (Tr.an 5 (Tr.fl 6 (Tr.an 10 (fls [11,12,13] (Tr.an 14 (fls [15,16] Tr.nil)))))))) h31 fun _ h33=>go [rd 6 4 0 0 1 h33]<|cw0 call290 ut6_4_steps h33 fun _ h35=>⟨kd [rd 0 4 0 0 1 h35],?_⟩
 refine cw1 call291 (mphase mk13 n m cy 5 sn) h35.c.t6 fun _ h38=>⟨kd [],?_⟩
 have h39:=h38.d.c.c.c.t6
 refine g0<|cw4 call367 (ut8_13_sweep b ar rm mk13 n m cy sn sw14 at_ bg A s gn tl15 hin11.1 om om om om om om om) h39 fun _ h41=>⟨kd [],?_⟩
 have h42:=h41.d.t6
 refine g0<|sB [iV 0,uV 0] h42 fun w43 h44=>⟨kd [],?_⟩
 refine g0 ?_
 obtain⟨tl_,htl_⟩: ∃z_:Int,z_=tl15+1:=⟨_,rfl⟩
 have h46:sat g w43 [Cl sw14 [iV n,iV ((s:Int)+1),iV tl_] 263,Cl r23 [iV 0,uV 0] 203,Mr mk13 n m 0 (cy+1) 0,Cl b [pV mk13,pV sw14,iV n,iV m,iV at_,iV bg,.bool false] 158,Ar0 ar n m (giveA A s gn),R]:=by rw[htl_];exact h44.d.t6
 have h48:sat g _ (Cy b n m 0 (cy+1) 0 at_ ((s:Int)+1) bg::_):=Cy_close b n m 0 (cy+1) 0 at_ ((s:Int)+1) bg mk13 sw14 tl_ hp16 hp17 hp18 hp19 om h46.b.c.t6
 exact enR _ [rd 0 0 0 0 2 h44] (tk3 (sf2 (sf2 (sf3 h48.b.a.t4))))
theorem ut8_14_check(j l e c d:Nat)(f i:Int)(o:List Sl2)(k m:Int)(hf0:0≤(c:Int)-1)(hf1:0≤ -(c:Int)+9223372036854775808)(hf2:0≤ -k+(c:Int)-1):HQ 443 [pV j,pV l,pV e] [Mr e c d 5 f i,Ar0 l c d o,Cl j [iV c,iV k,iV m] 263] (iV 0) [Mr e c d 5 f i,Ar0 l c d o,Cl j [iV c,iV k,iV m] 263]:=by
 refine hiS func443 ntmps443 fun g w0 R h0=> ?_
 have h10:=h0.a.t4
 refine g0<|cl1 call289 (asizes0 l c d o) h10 fun _ h12=> ?_
 have h13:=h12.a.t4
 refine g0<|cl1 call434 (mmark e c d f 5 i 0 om om) h13 fun _ h15=> ?_
 have h16:=h15.b.t4
 refine g0<|cl1 call179 (ut7_5_made j c k m om) h16 fun _ h18=> ?_
 have h19:=h18.a.t4
 refine go [.v 3 5 (qeF (c:Int) 0),rd 5 4 0 0 1 h18,.v 5 5 (oIr ((c:Int)-1))]<|cl1 call434 (mmark e c d f 5 i ((c:Int)-1) om om) h19 fun _ h21=>go [rd 6 4 1 0 1 h21]<|cl1 call434 (mmarkx e c d f 5 i) h21 fun _ h23=> ?_
 have h24:=h23.a.t4
 refine go [rd 7 4 1 0 1 h23,.v 7 5 (qnF (c:Int) (c:Int))]<|cl1 call411 (ut8_1_Done j c k m om om) h24 fun _ h26=> ?_
 have h27:=h26.a.t4
 refine g0<|cl1 call291 (mphase e c d f 5 i) h27 fun _ h29=>g0 ?_
 exact enR _ [] h29.b.a.t4
theorem ut8_15_All(e c:Nat)(f:List Sl2)(d:Nat)(i:inS 1 f 0= []):HT prog 435 [pV e] [Cl e (pV d::iV c::fl eHo F256) 237,Tb d c f] (fun v K=> ∃p12:Option Addr,∃c13:Nat,v= .slice p12 0 c13∧K= [Cl e (pV d::iV c::fl eHo F256) 237,Tb d c f,Sl 203 2 p12 0 c13 (fl eRf [])]):=by
 refine hiS func435 ntmps435 fun g w0 R h0=>g0<|cl1 call173 (ut1_1_valid e d c) h0 fun _ h11=> ?_
 have h14:=h11.a.t3
 refine go [rd 3 3 0 0 1 h11]<|cP call459 (taken0_ht d c f i) h14 ?_
 rintro v K _ (⟨p12,c13,rfl,rfl⟩) h16
 have h17:=ap2 h16
 refine g0 ?_
 exact en (.slice p12 0 c13) [] ⟨_,_,rfl,⟨p12,c13,rfl,rfl⟩,h17.b.t4⟩
theorem ut8_16_Ref(a:Option Addr)(b c:Nat):HQ 444 [.slice a 0 b,.func (Fn.func 445) #[] #[pV c]] [] (iV (-1)) []:=by
 refine hiS func444 ntmps444 fun g w0 R h0=>g0<|unS 39<|g0<|up<|g0 ?_
 exact enR _ [] h0
theorem ut8_17_Step(l j k a e:Nat)(m o:Int)(i:List Sl2)(d p:Int)(q:inS 1 i 0= [])(hf0:0≤ -(a:Int)+9223372036854775808)(hf1:0≤ -d+9223372036854775806)(hf2:0≤d)(hf3:0≤(a:Int)-d-1):HQ 410 [pV l,pV j,pV k] [Mr k a e 5 m o,Ar0 j a e i,Cl l [iV a,iV d,iV p] 263] (.tuple #[.agg #[iV 0,uV 0],.bool false,iV 0]) [Mr k a e 5 m o,Ar0 j a e i,Cl l [iV a,iV (d+1),iV p] 263]:=by
 refine hiS func410 ntmps410 fun g w0 R h0=>g0<|nP 203 [iV 0,uV 0] h0 (fun _ _ h12=> ?_)
 have h13:=h12.c.c.c.t5
 refine g0<|cl3 call443 (ut8_14_check l j k a e m o i d p om om om) h13 fun _ h15=>go [rd 4 3 2 1 1 h15]<|nP 3 [iV 0] h15 (fun r16 _ h18=> ?_)
 refine sA [iV d] h18 fun _ h20=> ?_
 have h21:=h20.c.t6
 refine go [rd 5 3 3 1 1 h20,.v 5 4 (oIr (d+1))]<|sP [(1,iV (d+1))] [iV a,iV (d+1),iV p] h21 fun _ h23=> ?_
 have h26:=h23.c.t6
 refine g0<|cP call266 (aheap0 j a e i) h26 ?_
 rintro v K _ (⟨h24,t25,rfl,rfl⟩) h28
 refine cP call435 (ut8_15_All h24 a i t25 q) ((ap3 h28).b.b.t8) ?_
 rintro v K _ (⟨p30,c31,rfl,rfl⟩) h34
 have h35:=ap3 h34
 refine g0<|cl0 call444 (ut8_16_Ref p30 c31 r16) h35 fun _ h37=> ?_
 have h38:=h37.f.t9
 refine go [rd 8 1 5 0 1 h37]<|cl1 call434 (mmark k a e m 5 o d om om) h38 fun _ h40=> ?_
 have h41:=h40.x.t9
 refine g0<|sA [iV 0,uV 0] h41 fun _ h43=>g0 ?_
 exact enR _ [rd 0 0 0 0 2 h43] (tk4 (sf3 (sf3 (sf3 (sf8 h43.f.f.c.t9)))))
theorem ut8_18_sweep(s m:Nat)(y:Int)(k b f:Nat)(p q:Int)(i:Nat)(t u:Int)(o:List Sl2)(j l:Int)(x:inS 1 o 0= [])(hf0:0≤ -(b:Int)+9223372036854775808)(hf1:0≤j)(hf2:0≤ -j+(b:Int)-2):HQ 367 [pV s,pV m,iV y] [Mr k b f 5 p q,Cl s [pV k,pV i,iV b,iV f,iV t,iV u,.bool false] 158,Ar0 m b f o,Cl i [iV b,iV j,iV l] 263] (.tuple #[.agg #[iV 0,uV 0],.bool false,iV 0]) [Mr k b f 5 p q,Cl s [pV k,pV i,iV b,iV f,iV t,iV u,.bool false] 158,Ar0 m b f o,Cl i [iV b,iV (j+1),iV l] 263]:=by
 refine hiS func367 ntmps367 fun g w0 R h0=>g0<|nP 203 [iV 0,uV 0] h0 (fun _ _ h12=> ?_)
 refine g0<|dw (fls [0,1,2,3,4,5,6,7,8] (Tr.an2 9 (fls [10,11,12,13] (Tr.an 14 (Tr.an 15 (fls [16,17] Tr.nil)))) 14 (Tr.an 9 (fls [10,11,12,13] (Tr.an 15 (fls [16,17] Tr.nil)))))) h12 fun _ h14=>go [rd 1 3 2 1 1 h14,rd 1 8 2 0 1 h14] ?_
 refine br2 ?_ ?_
 ·
  refine cw3 call410 (ut8_17_Step i m k b f p q o j l x om om om om) h14.d.d.c.t6 fun _ h17=>⟨kd [],?_⟩
  refine g0<|nG (fun q_=>pV q_) 203 [iV 0,uV 0] h17 (fun _ _ h20=>⟨kd [],?_⟩)
  refine sB [iV 0,uV 0] h20 fun _ h22=>⟨kd [],?_⟩
  have h23:=h22.c.t7
  refine go [rd 2 6 5 1 1 h22]<|cl1 call411 (ut8_1_Done i b (j+1) l om om) h23 fun _ h25=> ?_
  have h26:=h25.d.t7
  refine g0<|sA [iV 0,uV 0] h26 fun _ h28=>g0 ?_
  exact enR _ [rd 0 0 0 0 2 h28] (tk5 (sf4 (sf4 (sf4 (sf4 (sf6 h28.a.d.e.e.t7))))))
 refine nG (fun q_=>pV q_) 203 [iV 0,uV 0] h14 (fun _ _ h33=>⟨kd [rd 0 8 3 0 1 h33,rd 0 3 3 1 1 h33],?_⟩)
 refine cw3 call410 (ut8_17_Step i m k b f p q o j l x om om om om) h33.e.e.d.t7 fun _ h36=>⟨kd [],?_⟩
 have h37:=h36.c.t7
 refine g0<|sB [iV 0,uV 0] h37 fun _ h39=>⟨kd [],?_⟩
 have h40:=h39.c.t7
 refine go [rd 2 6 5 1 1 h39]<|cl1 call411 (ut8_1_Done i b (j+1) l om om) h40 fun _ h42=> ?_
 have h43:=h42.d.t7
 refine g0<|sA [iV 0,uV 0] h43 fun _ h45=>g0 ?_
 exact enR _ [rd 0 0 0 0 2 h45] (tk5 (sf4 (sf4 (sf4 (sf4 (sf6 h45.a.d.e.e.t7))))))
theorem cyst5o(b n m:Nat)(cy sn at_ nx bg:Int)(ar:Nat)(A:List Sl2)(rm:Int)(hf0:0≤nx)(hf1:0≤(n:Int)-nx-2)(hf2:0≤rm):HQ 213 [pV b,pV ar,iV rm] [Cy b n m 5 cy sn at_ nx bg,Ar0 ar n m A] (.tuple #[.agg #[iV 0,uV 0],.bool false,iV 0]) [Cy b n m 5 cy sn at_ (nx+1) bg,Ar0 ar n m A]:=by
 refine hiS func213 ntmps213 fun g w0 R h0=> ?_
 have h10:=h0.a.t3
 have hin11:=Ar0_in h10
 obtain⟨mk13,sw14,tl15,hp16,hp17,hp18,hp19,hp20,h21⟩:=Cy_open h10.a.t3
 have h22:sat g _ (Cl b [pV mk13,pV sw14,iV n,iV m,iV at_,iV bg,.bool false] 158::_):=h21
 refine g0<|nP 203 [iV 0,uV 0] h22 (fun r23 _ h25=> ?_)
 have h26:=h25.d.t6
 refine g0<|cl1 call289 (asizes0 ar n m A) h26 fun _ h28=> ?_
 have h29:=h28.b.t6
 refine g0<|cl1 call114 (ut6_2_valid b mk13 sw14 n m at_ bg) h29 fun _ h31=>go [.v 2 5 (qeF (n:Int) 0),rd 4 4 0 2 1 h31,.v 4 5 (qnF (n:Int) (n:Int)),rd 4 11 0 3 1 h31,.v 4 12 (qnF (m:Int) (m:Int)),.v 4 16 (oF (rm<0))]<|dw (fls [1,2,3,4,7,8,9] (Tr.an 0 (Tr.an 5 (Tr.fl 6 (Tr.an 10 (fls [11,12,13] (Tr.an 14 (fls [15,16] Tr.nil)))))))) h31 fun _ h33=>go [rd 6 4 0 0 1 h33]<|cw0 call290 ut6_4_steps h33 fun _ h35=>⟨kd [rd 0 4 0 0 1 h35],?_⟩
 refine cw1 call291 (mphase mk13 n m cy 5 sn) h35.c.t6 fun _ h38=>⟨kd [],?_⟩
 have h39:=h38.d.c.c.c.t6
 refine g0<|cw4 call367 (ut8_18_sweep b ar rm mk13 n m cy sn sw14 at_ bg A nx tl15 hin11 om om om) h39 fun _ h41=>⟨kd [],?_⟩
 have h42:=h41.d.t6
 refine g0<|sB [iV 0,uV 0] h42 fun w43 h44=>⟨kd [],?_⟩
 refine g0 ?_
 obtain⟨tl_,htl_⟩: ∃z_:Int,z_=tl15:=⟨_,rfl⟩
 have h46:sat g w43 [Cl sw14 [iV n,iV (nx+1),iV tl_] 263,Cl r23 [iV 0,uV 0] 203,Mr mk13 n m 5 cy sn,Cl b [pV mk13,pV sw14,iV n,iV m,iV at_,iV bg,.bool false] 158,Ar0 ar n m A,R]:=by rw[htl_];exact h44.d.t6
 have h48:sat g _ (Cy b n m 5 cy sn at_ (nx+1) bg::_):=Cy_close b n m 5 cy sn at_ (nx+1) bg mk13 sw14 tl_ hp16 hp17 hp18 hp19 om h46.b.c.t6
 exact enR _ [rd 0 0 0 0 2 h44] (tk3 (sf2 (sf2 (sf3 h48.b.a.t4))))
theorem ut8_19_Done(c a:Nat)(b d:Int)(hf0:0≤(a:Int)-1)(hf1:0≤b-(a:Int)+1)(hf2:0≤ -b+(a:Int)-1):HQ 411 [pV c] [Cl c [iV a,iV (b+1),iV d] 263] (.bool true) [Cl c [iV a,iV (b+1),iV d] 263]:=by
 refine hiS func411 ntmps411 fun g w0 R h0=>g0<|dw (Tr.fl 0 (Tr.an 1 (fls [2,3,4,5,6,7,8,9,10,11,12,13] Tr.nil))) h0 fun _ h11=>g0<|cw1 call179 (ut7_5_made c a (b+1) d om) h11 fun _ h13=>⟨kd [],?_⟩
 refine go [rd 1 6 0 1 1 h13,rd 1 10 0 0 1 h13,.v 1 11 (qeT (b+1) (a:Int))] ?_
 exact enR _ [] h13
theorem ut8_20_sweep(s o:Nat)(y:Int)(j a f:Nat)(k p:Int)(l:Nat)(t u:Int)(q:List Sl2)(i m:Int)(x:inS 1 q 0= [])(hf0:0≤ -i+9223372036854775806)(hf1:0≤(a:Int)-1)(hf2:0≤i-(a:Int)+1)(hf3:0≤ -i+(a:Int)-1)(hf4:0≤k)(hf5:0≤ -k+1000000):HQ 367 [pV s,pV o,iV y] [Mr j a f 5 k p,Cl s [pV j,pV l,iV a,iV f,iV t,iV u,.bool false] 158,Ar0 o a f q,Cl l [iV a,iV i,iV m] 263] (.tuple #[.agg #[iV 0,uV 0],.bool false,iV 0]) [Mr j a f 0 (k+1) 0,Cl s [pV j,pV l,iV a,iV f,iV t,iV u,.bool false] 158,Ar0 o a f q,Cl l [iV a,iV (i+1),iV m] 263]:=by
 refine hiS func367 ntmps367 fun g w0 R h0=>g0<|nP 203 [iV 0,uV 0] h0 (fun _ _ h12=> ?_)
 refine g0<|dw (fls [0,1,2,3,4,5,6,7,8] (Tr.an2 9 (fls [10,11,12,13] (Tr.an 14 (Tr.an 15 (fls [16,17] Tr.nil)))) 14 (Tr.an 9 (fls [10,11,12,13] (Tr.an 15 (fls [16,17] Tr.nil)))))) h12 fun _ h14=>go [rd 1 3 2 1 1 h14,rd 1 8 2 0 1 h14] ?_
 refine br2 ?_ ?_
 ·
  refine cw3 call410 (ut8_17_Step l o j a f k p q i m x om om om om) h14.d.d.c.t6 fun _ h17=>⟨kd [],?_⟩
  refine g0<|nG (fun q_=>pV q_) 203 [iV 0,uV 0] h17 (fun _ _ h20=>⟨kd [],?_⟩)
  refine sB [iV 0,uV 0] h20 fun _ h22=>⟨kd [],?_⟩
  have h23:=h22.c.t7
  refine go [rd 2 6 5 1 1 h22]<|cl1 call411 (ut8_19_Done l a i m om om om) h23 fun _ h25=> ?_
  have h26:=h25.b.t7
  refine go [rd 3 3 5 0 1 h25]<|cl1 call408 (mgo5 j a f k p om om) h26 fun _ h28=> ?_
  have h29:=h28.d.t7
  refine g0<|sA [iV 0,uV 0] h29 fun _ h31=>g0 ?_
  exact enR _ [rd 0 0 0 0 2 h31] (tk5 (sf4 (sf4 (sf4 (sf4 (sf6 h31.b.d.e.d.t7))))))
 refine nG (fun q_=>pV q_) 203 [iV 0,uV 0] h14 (fun _ _ h36=>⟨kd [rd 0 8 3 0 1 h36,rd 0 3 3 1 1 h36],?_⟩)
 refine cw3 call410 (ut8_17_Step l o j a f k p q i m x om om om om) h36.e.e.d.t7 fun _ h39=>⟨kd [],?_⟩
 have h40:=h39.c.t7
 refine g0<|sB [iV 0,uV 0] h40 fun _ h42=>⟨kd [],?_⟩
 have h43:=h42.c.t7
 refine go [rd 2 6 5 1 1 h42]<|cl1 call411 (ut8_19_Done l a i m om om om) h43 fun _ h45=> ?_
 have h46:=h45.b.t7
 refine go [rd 3 3 5 0 1 h45]<|cl1 call408 (mgo5 j a f k p om om) h46 fun _ h48=> ?_
 have h49:=h48.d.t7
 refine g0<|sA [iV 0,uV 0] h49 fun _ h51=>g0 ?_
 exact enR _ [rd 0 0 0 0 2 h51] (tk5 (sf4 (sf4 (sf4 (sf4 (sf6 h51.b.d.e.d.t7))))))
theorem cyst5ol(b n m:Nat)(cy sn at_ nx bg:Int)(ar:Nat)(A:List Sl2)(rm:Int)(hf0:0≤nx)(hf1:0≤nx-(n:Int)+1)(hf2:0≤(n:Int)-nx-1)(hf3:0≤cy)(hf4:0≤ -cy+1000000)(hf5:0≤rm):HQ 213 [pV b,pV ar,iV rm] [Cy b n m 5 cy sn at_ nx bg,Ar0 ar n m A] (.tuple #[.agg #[iV 0,uV 0],.bool false,iV 0]) [Cy b n m 0 (cy+1) 0 at_ (nx+1) bg,Ar0 ar n m A]:=by
 refine hiS func213 ntmps213 fun g w0 R h0=> ?_
 have h10:=h0.a.t3
 have hin11:=Ar0_in h10
 obtain⟨mk13,sw14,tl15,hp16,hp17,hp18,hp19,hp20,h21⟩:=Cy_open h10.a.t3
 have h22:sat g _ (Cl b [pV mk13,pV sw14,iV n,iV m,iV at_,iV bg,.bool false] 158::_):=h21
 refine g0<|nP 203 [iV 0,uV 0] h22 (fun r23 _ h25=> ?_)
 have h26:=h25.d.t6
 refine g0<|cl1 call289 (asizes0 ar n m A) h26 fun _ h28=> ?_
 have h29:=h28.b.t6
 refine g0<|cl1 call114 (ut6_2_valid b mk13 sw14 n m at_ bg) h29 fun _ h31=>go [.v 2 5 (qeF (n:Int) 0),rd 4 4 0 2 1 h31,.v 4 5 (qnF (n:Int) (n:Int)),rd 4 11 0 3 1 h31,.v 4 12 (qnF (m:Int) (m:Int)),.v 4 16 (oF (rm<0))]<|dw (fls [1,2,3,4,7,8,9] (Tr.an 0 (Tr.an 5 (Tr.fl 6 (Tr.an 10 (fls [11,12,13] (Tr.an 14 (fls [15,16] Tr.nil)))))))) h31 fun _ h33=>go [rd 6 4 0 0 1 h33]<|cw0 call290 ut6_4_steps h33 fun _ h35=>⟨kd [rd 0 4 0 0 1 h35],?_⟩
 refine cw1 call291 (mphase mk13 n m cy 5 sn) h35.c.t6 fun _ h38=>⟨kd [],?_⟩
 have h39:=h38.d.c.c.c.t6
 refine g0<|cw4 call367 (ut8_20_sweep b ar rm mk13 n m cy sn sw14 at_ bg A nx tl15 hin11 om om om om om om) h39 fun _ h41=>⟨kd [],?_⟩
 have h42:=h41.d.t6
 refine g0<|sB [iV 0,uV 0] h42 fun w43 h44=>⟨kd [],?_⟩
 refine g0 ?_
 obtain⟨tl_,htl_⟩: ∃z_:Int,z_=tl15:=⟨_,rfl⟩
 have h46:sat g w43 [Cl sw14 [iV n,iV (nx+1),iV tl_] 263,Cl r23 [iV 0,uV 0] 203,Mr mk13 n m 0 (cy+1) 0,Cl b [pV mk13,pV sw14,iV n,iV m,iV at_,iV bg,.bool false] 158,Ar0 ar n m A,R]:=by rw[htl_];exact h44.d.t6
 have h48:sat g _ (Cy b n m 0 (cy+1) 0 at_ (nx+1) bg::_):=Cy_close b n m 0 (cy+1) 0 at_ (nx+1) bg mk13 sw14 tl_ hp16 hp17 hp18 hp19 om h46.b.c.t6
 exact enR _ [rd 0 0 0 0 2 h44] (tk3 (sf2 (sf2 (sf3 h48.b.a.t4))))
def phP(n p:Nat):Int:=if p=0 then 1 else if p=1 then 2 else if p=2 then 3 else if p<3+n then 4 else if p<3+2*n then 5 else 0
def snP(p j:Nat):Int:=if p≤1 then (j:Int) else 0
def cyP(n p:Nat)(ec:Int):Int:=if p<3+2*n then ec else ec+1
def cnP(n p:Nat)(a x:Int):Prop:=(3≤p→p<3+n→a=(p:Int)-3)∧(3+n≤p→p<3+2*n→x=(p:Int)-3-n)
def GcC(c n m:Nat)(ec bg:Int)(p j:Nat):Assn:=fun h=> ∃x:Int×Int,cnP n p x.1 x.2∧Cy c n m (phP n p) (cyP n p ec) (snP p j) x.1 x.2 bg h
def GcA(ar n m:Nat)(A:List Sl2)(s:Nat)(gn:Int)(p:Nat):Assn:=if p≤3+n+s then Ar1 ar n m A s gn else Ar0 ar n m (giveA A s gn)
def gcN(n m p j:Nat):Nat:=if p≤1 then (if j=m then p+1 else p) else if p<3+2*n then p+1 else p
def gcJ(m p j:Nat):Nat:=if p≤1∧j≠m then j else 0
def GOk(n m p j:Nat):Prop:=(p=0→j=m)∧(p=1→j=m∨j=0)∧p≤3+2*n
def ackE(p:Nat):Int:=if p≤1 then 0 else 8
theorem gs_go{f:Nat}{args:List Value}{c ar n m:Nat}{A:List Sl2}{s:Nat}{gn ec bg:Int}{p j p' j':Nat}{V:Value}(h: ∀at_ nx:Int,cnP n p at_ nx→ ∃(B B':Assn) (ph cy sn ph' cy' sn' at' nx':Int),
  (phP n p=ph∧cyP n p ec=cy∧snP p j=sn∧GcA ar n m A s gn p=B)∧(phP n p'=ph'∧cyP n p' ec=cy'∧snP p' j'=sn'∧GcA ar n m A s gn p'=B'∧cnP n p' at' nx')∧
  HT prog f args [Cy c n m ph cy sn at_ nx bg,B] (fun v K=>v=V∧K= [Cy c n m ph' cy' sn' at' nx' bg,B'])):
  HT prog f args [GcC c n m ec bg p j,GcA ar n m A s gn p] (fun v K=>v=V∧K= [GcC c n m ec bg p' j',GcA ar n m A s gn p']):=by
 intro g w F hs
 obtain⟨x,hx,h1⟩:=sat_open (X:=Int×Int) (p:=fun x=>cnP n p x.1 x.2) (B:=fun x=>Cy c n m (phP n p) (cyP n p ec) (snP p j) x.1 x.2 bg) hs (fun _ hk=>hk)
 obtain⟨B,B',ph,cy,sn,ph',cy',sn',at',nx',⟨e1,e2,e3,e4⟩,⟨f1,f2,f3,f4,f5⟩,ht⟩:=h x.1 x.2 hx
 rw[e1,e2,e3,e4] at h1
 refine(HT.post ht ?_) g w F h1
 rintro v K ⟨rfl,rfl⟩
 refine⟨_,⟨rfl,rfl⟩,fun g w F h2=> ?_⟩
 rw[f4]
 exact sat_imp h2 fun _ hk=>⟨(at',nx'),f5,by rw[f1,f2,f3];exact hk⟩
theorem gI{P:Prop}(h:P:=by first|(unfold phP;(repeat' split)<;>omega)|(unfold cyP;(repeat' split)<;>omega)|(unfold snP;(repeat' split)<;>omega)):P:=h
theorem gC{P:Prop}(h:P:=by unfold cnP at*;omega):P:=h
theorem gc_stepF(c ar n m:Nat)(A:List Sl2)(s:Nat)(gn ec bg:Int)(p j:Nat)(rm:Int)(hf0:0≤(p:Int)-3-s)(hf1:0≤3+(s:Int)-p)(hf2:0≤rm-1)(hf3:0≤(n:Int)-1-s):
  HT prog 213 [pV c,pV ar,iV rm] [GcC c n m ec bg p j,GcA ar n m A s gn p] (fun v K=>v= .tuple #[.agg #[iV s,uV gn],.bool true,iV 0]∧K= [GcC c n m ec bg (gcN n m p j) (gcJ m p j),GcA ar n m A s gn (gcN n m p j)]):=by
 rw[show gcN n m p j=p+1 from by unfold gcN;rw[if_neg om,if_pos om],show gcJ m p j=0 from by unfold gcJ;rw[if_neg om]]
 refine gs_go fun at_ nx hx=> ?_
 have ha:at_=(s:Int):=by unfold cnP at hx;omega
 subst ha
 by_cases hl:s+2≤n
 · exact⟨_,_,_,_,_,_,_,_,_,_,⟨gI,gI,gI,if_pos om⟩,⟨gI,gI,gI,if_pos om,gC⟩,cyst4f c n m ec 0 nx bg ar A s gn rm om om⟩
 · exact⟨_,_,_,_,_,_,_,_,_,_,⟨gI,gI,gI,if_pos om⟩,⟨gI,gI,gI,if_pos om,gC⟩,cyst4fl c n m ec 0 nx bg ar A s gn rm om om⟩
theorem gc_stepN(c ar n m:Nat)(A:List Sl2)(s:Nat)(gn ec bg:Int)(p j:Nat)(rm:Int)(hG:GOk n m p j)(hf0:0≤rm)(hf1:0≤(n:Int)-1-s)(hf2:0≤ec)(hf3:0≤1000000-ec)(hf4:0≤(m:Int)-1)(hn0:(p:Int)-3-s≠0):
  HT prog 213 [pV c,pV ar,iV rm] [GcC c n m ec bg p j,GcA ar n m A s gn p] (fun v K=>v= .tuple #[.agg #[iV 0,uV 0],.bool false,iV 0]∧K= [GcC c n m ec bg (gcN n m p j) (gcJ m p j),GcA ar n m A s gn (gcN n m p j)]):=by
 obtain⟨hG0,hG1,hG2⟩:=hG
 refine gs_go fun at_ nx hx=> ?_
 by_cases h0:p=0
 · obtain rfl:=hG0 h0
   subst h0
   rw[show gcN n j 0 j=1 from by simp[gcN],show gcJ j 0 j=0 from by simp[gcJ]]
   exact⟨_,_,_,_,_,_,_,_,_,_,⟨gI,gI,gI,if_pos om⟩,⟨gI,gI,gI,if_pos om,gC⟩,cyst1 c n j ec at_ nx bg ar A s gn rm om⟩
 by_cases h1:p=1
 · subst h1
   rcases hG1 rfl with rfl |rfl
   · rw[show gcN n j 1 j=2 from by simp[gcN],show gcJ j 1 j=0 from by simp[gcJ]]
     exact⟨_,_,_,_,_,_,_,_,_,_,⟨gI,gI,gI,if_pos om⟩,⟨gI,gI,gI,if_pos om,gC⟩,cyst2 c n j ec at_ nx bg ar A s gn rm om⟩
   · rw[show gcN n m 1 0=1 from by unfold gcN;rw[if_pos om,if_neg om],show gcJ m 1 0=0 from by unfold gcJ;split<;>rfl]
     exact⟨_,_,_,_,_,_,_,_,_,_,⟨gI,gI,gI,if_pos om⟩,⟨gI,gI,gI,if_pos om,gC⟩,cyst2n c n m ec at_ nx bg ar A s gn rm om⟩
 have ej:gcJ m p j=0:=by unfold gcJ;rw[if_neg om]
 rw[ej]
 by_cases h9:p=3+2*n
 · rw[show gcN n m p j=p from by unfold gcN;rw[if_neg om,if_neg om]]
   exact⟨_,_,_,_,_,_,_,_,_,_,⟨gI,gI,gI,if_neg om⟩,⟨gI,gI,gI,if_neg om,gC⟩,cyst0 c n m (ec+1) 0 at_ nx bg ar _ rm om⟩
 rw[show gcN n m p j=p+1 from by unfold gcN;rw[if_neg om,if_pos om]]
 by_cases h2:p=2
 · subst h2
   exact⟨_,_,_,_,_,_,_,_,_,_,⟨gI,gI,gI,if_pos om⟩,⟨gI,gI,gI,if_pos om,gC⟩,cyst3 c n m ec 0 at_ nx bg ar A s gn rm om⟩
 by_cases h3:p<3+n
 · have ha:at_=(p:Int)-3:=by unfold cnP at hx;omega
   by_cases hl:p+1<3+n
   · exact⟨_,_,_,_,_,_,_,_,_,_,⟨gI,gI,gI,if_pos om⟩,⟨gI,gI,gI,if_pos om,gC⟩,cyst4 c n m ec 0 at_ nx bg ar A s gn rm om om om om⟩
   · exact⟨_,_,_,_,_,_,_,_,_,_,⟨gI,gI,gI,if_pos om⟩,⟨gI,gI,gI,if_pos om,gC⟩,cyst4l c n m ec 0 at_ nx bg ar A s gn rm om om om om om⟩
 have ha:nx=(p:Int)-3-n:=by unfold cnP at hx;omega
 by_cases h4:p<3+n+s
 · exact⟨_,_,_,_,_,_,_,_,_,_,⟨gI,gI,gI,if_pos om⟩,⟨gI,gI,gI,if_pos om,gC⟩,cyst5 c n m ec 0 at_ nx bg ar A s gn rm om om om om⟩
 by_cases h5:p=3+n+s
 · have hs:nx=(s:Int):=by omega
   subst hs
   by_cases hl:s+2≤n
   · exact⟨_,_,_,_,_,_,_,_,_,_,⟨gI,gI,gI,if_pos om⟩,⟨gI,gI,gI,if_neg om,gC⟩,cyst5f c n m ec 0 at_ bg ar A s gn rm om om⟩
   · exact⟨_,_,_,_,_,_,_,_,_,_,⟨gI,gI,gI,if_pos om⟩,⟨gI,gI,gI,if_neg om,gC⟩,cyst5fl c n m ec 0 at_ bg ar A s gn rm om om om om⟩
 by_cases hl:p+1<3+2*n
 · exact⟨_,_,_,_,_,_,_,_,_,_,⟨gI,gI,gI,if_neg om⟩,⟨gI,gI,gI,if_neg om,gC⟩,cyst5o c n m ec 0 at_ nx bg ar _ rm om om om⟩
 · exact⟨_,_,_,_,_,_,_,_,_,_,⟨gI,gI,gI,if_neg om⟩,⟨gI,gI,gI,if_neg om,gC⟩,cyst5ol c n m ec 0 at_ nx bg ar _ rm om om om om om om⟩
theorem gc_ack(c ar n m:Nat)(A:List Sl2)(s:Nat)(gn ec bg:Int)(p j:Nat)(hf0:0≤(m:Int)-1-j)(hf1:0≤3+2*(n:Int)-p)(hf2:0≤(n:Int)-1-s):
  HT prog 197 [pV c,pV ar,iV j] [GcC c n m ec bg p j,GcA ar n m A s gn p] (fun v K=>v= .tuple #[.bool (decide (p≤1)),iV (ackE p)]∧K= [GcC c n m ec bg p (j+1),GcA ar n m A s gn p]):=by
 refine gs_go fun at_ nx hx=> ?_
 by_cases h0:p=0
 · subst h0
   exact⟨_,_,_,_,_,_,_,_,_,_,⟨gI,gI,gI,if_pos om⟩,⟨gI,gI,gI,if_pos om,gC⟩,cyack1 c n m ec at_ nx bg ar A s gn j om⟩
 by_cases h1:p=1
 · subst h1
   exact⟨_,_,_,_,_,_,_,_,_,_,⟨gI,gI,gI,if_pos om⟩,⟨gI,gI,gI,if_pos om,gC⟩,cyack2 c n m ec at_ nx bg ar A s gn j om⟩
 rw[decide_eq_false (show ¬p≤1 by omega),show ackE p=8 from if_neg om]
 by_cases h9:p=3+2*n
 · exact⟨_,_,_,_,_,_,_,_,_,_,⟨gI,gI,gI,if_neg om⟩,⟨gI,gI,gI,if_neg om,hx⟩,cyacki0 c n m (ec+1) 0 at_ nx bg ar _ j om⟩
 have hp:0≤phP n p-3:=gI
 by_cases h4:p≤3+n+s
 · exact⟨_,_,_,_,_,_,_,_,_,_,⟨rfl,gI,gI,if_pos om⟩,⟨rfl,gI,gI,if_pos om,hx⟩,cyackx1 c n m (phP n p) ec 0 at_ nx bg ar A s gn j hp om⟩
 · exact⟨_,_,_,_,_,_,_,_,_,_,⟨rfl,gI,gI,if_neg om⟩,⟨rfl,gI,gI,if_neg om,hx⟩,cyackx0 c n m (phP n p) ec 0 at_ nx bg ar _ j hp om⟩
theorem gok_next{n m p j:Nat}(hm:1≤m)(h:GOk n m p j):GOk n m (gcN n m p j) (gcJ m p j):=by
 unfold GOk at*
 unfold gcN gcJ
 (repeat' split)<;>omega
def mv(n m:Nat):Nat→Nat×Nat→Nat×Nat
 |0,x=>x
 |i+1,x=>(gcN n m (mv n m i x).1 (mv n m i x).2,gcJ m (mv n m i x).1 (mv n m i x).2)
theorem mv_ok{n m p j:Nat}(hm:1≤m)(h:GOk n m p j): ∀i,GOk n m (mv n m i (p,j)).1 (mv n m i (p,j)).2
 |0=>h
 |i+1=>gok_next hm (mv_ok hm h i)
theorem mv_from0{n m:Nat}(hm:1≤m): ∀i,mv n m (i+1) (0,m)=(1,0)
 |0=>by simp[mv,gcN,gcJ]
 |i+1=>by
  have h:=mv_from0 (n:=n) hm i
  show (gcN n m (mv n m (i+1) (0,m)).1 (mv n m (i+1) (0,m)).2,gcJ m (mv n m (i+1) (0,m)).1 (mv n m (i+1) (0,m)).2)=_
  rw[h]
  unfold gcN gcJ
  rw[if_pos om,if_neg om]
  have:(0:Nat)≠m:=by omega
  simp[this]
theorem mv_from{n m p:Nat}(hn:1≤n)(hp:1≤p)(hp2:p≤3+2*n): ∀i,mv n m (i+1) (p,m)=(min (p+(i+1)) (3+2*n),0)
 |0=>by
  show (gcN n m p m,gcJ m p m)=_
  refine Prod.ext ?_ ?_
  · show gcN n m p m=min (p+(0+1)) (3+2*n)
    unfold gcN
    (repeat' split)<;>omega
  · show gcJ m p m=0
    unfold gcJ
    (repeat' split)<;>omega
 |i+1=>by
  have h:=mv_from (m:=m) hn hp hp2 i
  show (gcN n m (mv n m (i+1) (p,m)).1 (mv n m (i+1) (p,m)).2,gcJ m (mv n m (i+1) (p,m)).1 (mv n m (i+1) (p,m)).2)=_
  rw[h]
  refine Prod.ext ?_ ?_
  · show gcN n m (min (p+(i+1)) (3+2*n)) 0=min (p+(i+1+1)) (3+2*n)
    unfold gcN
    (repeat' split)<;>omega
  · show gcJ m (min (p+(i+1)) (3+2*n)) 0=0
    unfold gcJ
    (repeat' split)<;>omega
theorem gc_begin{g w:World}{F:List Assn}{c ar n m:Nat}{A:List Sl2}{s:Nat}{gn ec at_ nx bg:Int}(hn:1≤n)(h:sat g w (Cy c n m 1 ec 0 at_ nx bg::Ar1 ar n m A s gn::F)):sat g w (GcC c n m ec bg 0 0::GcA ar n m A s gn 0::F):=by
 rw[show GcA ar n m A s gn 0=Ar1 ar n m A s gn from if_pos om]
 exact sat_imp h fun _ hk=>⟨(at_,nx),gC,by rw[show phP n 0=1 from rfl,show cyP n 0 ec=ec from if_pos om,show snP 0 0=0 from rfl];exact hk⟩
theorem gc_end{g w:World}{F:List Assn}{c ar n m:Nat}{A:List Sl2}{s:Nat}{gn ec bg:Int}{p j:Nat}(hp:p=3+2*n)(hs:s<n)(h:sat g w (GcC c n m ec bg p j::GcA ar n m A s gn p::F)): ∃at_ nx:Int,sat g w (Cy c n m 0 (ec+1) 0 at_ nx bg::Ar0 ar n m (giveA A s gn)::F):=by
 rw[show GcA ar n m A s gn p=Ar0 ar n m (giveA A s gn) from if_neg om] at h
 obtain⟨x,hx,h1⟩:=sat_open (X:=Int×Int) (p:=fun x=>cnP n p x.1 x.2) (B:=fun x=>Cy c n m (phP n p) (cyP n p ec) (snP p j) x.1 x.2 bg) h (fun _ hk=>hk)
 rw[show phP n p=0 from gI,show cyP n p ec=ec+1 from gI,show snP p j=0 from gI] at h1
 exact⟨x.1,x.2,h1⟩
end Go.Proofs.YtcgkoffnknpgjaaGreatDoor
