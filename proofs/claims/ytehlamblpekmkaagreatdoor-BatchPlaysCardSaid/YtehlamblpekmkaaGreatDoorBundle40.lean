/- Walks, printed by my generator P:../out/o9.py. -/
import Derived.Test.YtehlamblpekmkaaGreatDoorBundle38
import Derived.Test.YtehlamblpekmkaaGreatDoorHq
import Derived.Test.YtehlamblpekmkaaGreatDoorInv
import Derived.Test.YtehlamblpekmkaaGreatDoorBundle31
import Derived.Test.YtehlamblpekmkaaGreatDoorBundle32
namespace Go.Proofs.YtehlamblpekmkaaGreatDoor
open Tryz
set_option maxHeartbeats 4000000
abbrev wsix(b f p d s l:Nat)(S:Wst):List Assn:= [Cl b [Value.nilIface,Value.iface 177 (Value.pointer (some ⟨f,0,none⟩)),Value.iface 180 (Value.pointer (some ⟨p,0,none⟩)),Value.iface 183 (Value.pointer (some ⟨d,0,none⟩)),Value.pointer (some ⟨s,0,none⟩),Value.pointer (some ⟨l,0,none⟩),Value.int IntKind.i64 S.now] 56,Fd f 64 S.F,Pl p S.B,Dk d S.D,Sr 239 s S.q,Lg l S.T]
theorem wd_get{g w:World}{L:List Assn}{j b:Nat}{S:Wst}(h:sat g w L)(hj:L[j]? =some (Wd b S)):WOk S:=wd_ok h hj
theorem wvalid_cl(b l:Nat)(v0 v1 v2 v3 v4 v5:Value):HQ 57 [pV b] [Cl b [v0,v1,v2,v3,v4,pV l,v5] 56] (.bool true) [Cl b [v0,v1,v2,v3,v4,pV l,v5] 56]:=by
 refine hiS func57 ntmps57 fun g w0 R h0=>go [rd 1 6 0 5 1 h0] ?_
 exact enR _ [] h0
theorem wnew_ht(gn:Int)(hgn:1≤gn∧gn≤4294967295):HT prog 42 [uV gn] [] (fun v K=> ∃b:Nat,v= .tuple #[pV b,iV 0]∧K= [Wd b (wnew gn)]):=by
 refine hiS func42 ntmps42 fun g w0 R h0=>g0<|cl0 call97 (gcheck_ok gn om om) h0 fun _ h11=>g0<|cP call98 (by have h_:=fnew_ok 64 gn dc om;exact h_) h11 ?_
 rintro v K _ (⟨b12,rfl,rfl⟩) h14
 have h15:=ap1 h14
 refine g0<|cP call99 (pnew_ht gn om) h15 ?_
 rintro v K _ (⟨b16,rfl,rfl⟩) h18
 have h19:=ap1 h18
 refine g0<|cP call100 (lnew_ht gn om) h19 ?_
 rintro v K _ (⟨b20,rfl,rfl⟩) h22
 have h23:=ap1 h22
 refine g0<|cP call101 new_ht h23 ?_
 rintro v K _ (⟨b24,rfl,rfl⟩) h26
 refine cP call102 lgnew_ht (ap1 h26) ?_
 rintro v K _ (⟨b28,rfl,rfl⟩) h30
 have h31:=ap1 h30
 refine g0<|nP 56 [Value.nilIface,Value.nilIface,Value.nilIface,Value.nilIface,pV b24,pV b28,iV 0] h31 (fun r32 _ h34=> ?_)
 refine g0<|dw (fls [0,1,2,3,4,5,6,7,8,9,10,11,13,14,17,18] (Tr.an 12 (Tr.fl 15 (Tr.an 16 (Tr.fl 19 (Tr.an 20 Tr.nil)))))) h34 fun _ h36=>go [.s 13 4]<|lw (.iface 177 (pV b12)) (fun _=>law_mkIface (t:=177) (x:=Ot 43) kr underlying177 rfl (pV b12) kr _)<|go [.s 13 6]<|lw (.iface 180 (pV b16)) (fun _=>law_mkIface (t:=180) (x:=Ot 45) kr underlying180 rfl (pV b16) kr _)<|go [.s 13 8]<|lw (.iface 183 (pV b20)) (fun _=>law_mkIface (t:=183) (x:=Ot 47) kr underlying183 rfl (pV b20) kr _)<|go [.s 13 11]<|lw (.pointer (some ⟨r32,1,none⟩)) (fun _=>law_indexArr (x:=Ot 50) (i:=(Operand.const (iV 1))) (b:=r32) (off:=0) (z:=1) kr underlying52 1 kr 1 kr kr om om 1 om _)<|g0<|sG [(1,.iface 177 (pV b12))] [Value.nilIface,.iface 177 (pV b12),Value.nilIface,Value.nilIface,pV b24,pV b28,iV 0] h36 fun _ h38=>⟨kd [],?_⟩
 refine lw (.pointer (some ⟨r32,2,none⟩)) (fun _=>law_indexArr (x:=Ot 53) (i:=(Operand.const (iV 2))) (b:=r32) (off:=0) (z:=2) kr underlying52 1 kr 2 kr kr om om 2 om _)<|sG [(2,.iface 180 (pV b16))] [Value.nilIface,.iface 177 (pV b12),.iface 180 (pV b16),Value.nilIface,pV b24,pV b28,iV 0] h38 fun _ h40=>⟨kd [],?_⟩
 refine lw (.pointer (some ⟨r32,3,none⟩)) (fun _=>law_indexArr (x:=Ot 56) (i:=(Operand.const (iV 3))) (b:=r32) (off:=0) (z:=3) kr underlying52 1 kr 3 kr kr om om 3 om _)<|sG [(3,.iface 183 (pV b20))] [Value.nilIface,.iface 177 (pV b12),.iface 180 (pV b16),.iface 183 (pV b20),pV b24,pV b28,iV 0] h40 fun w41 h42=>⟨kd [],?_⟩
 refine g0 ?_
 have h44:sat g _ (Wd r32 (wnew gn)::_):=wd_close (wok_new hgn) h42.b.c.d.e.d.t7
 exact en (.tuple #[pV r32,iV 0]) [] ⟨_,_,rfl,⟨r32,rfl,rfl⟩,h44⟩
theorem has_no(b f p d s l:Nat)(S:Wst)(hW:WOk S)(x y z:Int)(hz0:0≤z)(hz1:z≤4294967295)(hg: ¬(1≤x∧x≤3∧0≤y∧y≤63∧1≤z)):HQ 193 [pV b,.agg #[iV x,iV y,uV z]] [Cl b [Value.nilIface,.iface 177 (pV f),.iface 180 (pV p),.iface 183 (pV d),pV s,pV l,iV S.now] 56,Fd f 64 S.F,Pl p S.B,Dk d S.D,Sr 239 s S.q,Lg l S.T] (.bool false) [Cl b [Value.nilIface,.iface 177 (pV f),.iface 180 (pV p),.iface 183 (pV d),pV s,pV l,iV S.now] 56,Fd f 64 S.F,Pl p S.B,Dk d S.D,Sr 239 s S.q,Lg l S.T]:=by
 refine hiS func193 ntmps193 fun g w0 R h0=>g0<|nP 72 [iV x,iV y,uV z] h0 (fun _ _ h12=> ?_)
 refine g0<|dw (Tr.fl 0 (Tr.an 1 (fls [2,3] (Tr.an 4 (fls [5,6,7,8,9,10,11,12,13,14,16] (Tr.an 15 (Tr.an 17 (fls [18,19] Tr.nil)))))))) h12 fun _ h14=> ?_
 have h15:=h14.a.t8
 refine g0<|cw1 call57 (wvalid_cl b l Value.nilIface (.iface 177 (pV f)) (.iface 180 (pV p)) (.iface 183 (pV d)) (pV s) (iV S.now)) h15 fun _ h17=>⟨kd [],?_⟩
 refine go [rd 1 3 1 0 3 h17] ?_
 by_cases c18:1≤x
 ·
  by_cases c19:x≤3
  ·
   by_cases c20:0≤y
   ·
    by_cases c21:y≤63
    ·
     refine cw0 call192 (couter_no x y z om om om) h17 fun _ h23=>⟨kd [],?_⟩
     refine g0<|dsk []<|dsk []<|g0 ?_
     exact enR _ [] (tk7 (sf6 (sf6 (sf6 (sf6 (sf6 (sf6 (sf7 h23.f.f.f.f.f.e.t8))))))))
    refine cw0 call192 (couter_no x y z om om om) h17 fun _ h27=>⟨kd [],?_⟩
    refine g0<|dsk []<|dsk []<|g0 ?_
    exact enR _ [] (tk7 (sf6 (sf6 (sf6 (sf6 (sf6 (sf6 (sf7 h27.f.f.f.f.f.e.t8))))))))
   refine cw0 call192 (couter_no x y z om om om) h17 fun _ h31=>⟨kd [],?_⟩
   refine g0<|dsk []<|dsk []<|g0 ?_
   exact enR _ [] (tk7 (sf6 (sf6 (sf6 (sf6 (sf6 (sf6 (sf7 h31.f.f.f.f.f.e.t8))))))))
  refine cw0 call192 (couter_no x y z om om om) h17 fun _ h35=>⟨kd [],?_⟩
  refine g0<|dsk []<|dsk []<|g0 ?_
  exact enR _ [] (tk7 (sf6 (sf6 (sf6 (sf6 (sf6 (sf6 (sf7 h35.f.f.f.f.f.e.t8))))))))
 refine cw0 call192 (couter_no x y z om om om) h17 fun _ h39=>⟨kd [],?_⟩
 refine g0<|dsk []<|dsk []<|g0 ?_
 exact enR _ [] (tk7 (sf6 (sf6 (sf6 (sf6 (sf6 (sf6 (sf7 h39.f.f.f.f.f.e.t8))))))))
theorem has_1(b f p d s l:Nat)(S:Wst)(hW:WOk S)(y z:Int)(hz0:0≤z)(hz1:z≤4294967295)(hg:KGood (1,y,z))(hy0:0≤y)(hy1:y≤63)(hz:1≤z):HQ 193 [pV b,.agg #[iV 1,iV y,uV z]] [Cl b [Value.nilIface,.iface 177 (pV f),.iface 180 (pV p),.iface 183 (pV d),pV s,pV l,iV S.now] 56,Fd f 64 S.F,Pl p S.B,Dk d S.D,Sr 239 s S.q,Lg l S.T] (.bool (decide (Thr S (1,y,z)))) [Cl b [Value.nilIface,.iface 177 (pV f),.iface 180 (pV p),.iface 183 (pV d),pV s,pV l,iV S.now] 56,Fd f 64 S.F,Pl p S.B,Dk d S.D,Sr 239 s S.q,Lg l S.T]:=by
 refine hiS func193 ntmps193 fun g w0 R h0=>g0<|nP 72 [iV 1,iV y,uV z] h0 (fun _ _ h12=> ?_)
 refine g0<|dw (Tr.fl 0 (Tr.an 1 (fls [2,3] (Tr.an 4 (fls [5,6,7,8,9,10,11,12,13,14,16] (Tr.an 15 (Tr.an 17 (fls [18,19] Tr.nil)))))))) h12 fun _ h14=> ?_
 have h15:=h14.a.t8
 refine g0<|cw1 call57 (wvalid_cl b l Value.nilIface (.iface 177 (pV f)) (.iface 180 (pV p)) (.iface 183 (pV d)) (pV s) (iV S.now)) h15 fun _ h17=>⟨kd [],?_⟩
 refine go [rd 1 3 1 0 3 h17]<|cw0 call192 (couter_ok 1 y z om om om) h17 fun _ h19=>⟨kd [],?_⟩
 refine go [rd 1 10 1 0 1 h19,.s 1 13]<|lw (.pointer (some ⟨b,1,none⟩)) (fun _=>law_indexArr (x:=Ot 17) (i:=Ot 15) (b:=b) (off:=0) (z:=1) kr underlying52 1 kr 1 kr kr om om 1 om _) ?_
 have h22:=h19.b.t8
 refine go [rd 1 14 0 1 1 h19,rd 1 16 1 0 3 h19] ?_
 refine iG 177 (pV f) "All" [] 317 (by have h_:=fall_ht f 64 S.F;exact h_) h22 ?_
 rintro v K _ (⟨p20,c21,rfl,rfl⟩) h24
 have h25:=ap2 h24
 have hl26:((inS 1 (As S.F) 0).length)≤64:=by have h_:=inS_len 1 (As S.F) 0;rw[as_len,hW.fl] at h_;exact h_
 refine⟨kd [rd 0 16 3 0 3 h25],?_⟩
 refine cw1 call242 (oct_ht p20 ((inS 1 (As S.F) 0).length) c21 (allK 1 S.F) (Sl 72 3 p20 ((inS 1 (As S.F) 0).length) c21 (fl eO (allK 1 S.F))) (gv_sl _ _ _) (allK_len _ _) om 1 y z) h25.a.t9 fun _ h29=>⟨kd [],?_⟩
 refine g0 ?_
 exact en (.bool (decide ((1,y,z)∈(allK 1 S.F)))) [] ⟨_,_,rfl,⟨by rw[←thr_dec hg];rfl,rfl⟩,(tk7 (sf6 (sf6 (sf6 (sf6 (sf6 (sf6 (sf8 h29.x.x.x.x.e.f.t9))))))))⟩
theorem has_2(b f p d s l:Nat)(S:Wst)(hW:WOk S)(y z:Int)(hz0:0≤z)(hz1:z≤4294967295)(hg:KGood (2,y,z))(hy0:0≤y)(hy1:y≤63)(hz:1≤z):HQ 193 [pV b,.agg #[iV 2,iV y,uV z]] [Cl b [Value.nilIface,.iface 177 (pV f),.iface 180 (pV p),.iface 183 (pV d),pV s,pV l,iV S.now] 56,Fd f 64 S.F,Pl p S.B,Dk d S.D,Sr 239 s S.q,Lg l S.T] (.bool (decide (Thr S (2,y,z)))) [Cl b [Value.nilIface,.iface 177 (pV f),.iface 180 (pV p),.iface 183 (pV d),pV s,pV l,iV S.now] 56,Fd f 64 S.F,Pl p S.B,Dk d S.D,Sr 239 s S.q,Lg l S.T]:=by
 refine hiS func193 ntmps193 fun g w0 R h0=>g0<|nP 72 [iV 2,iV y,uV z] h0 (fun _ _ h12=> ?_)
 refine g0<|dw (Tr.fl 0 (Tr.an 1 (fls [2,3] (Tr.an 4 (fls [5,6,7,8,9,10,11,12,13,14,16] (Tr.an 15 (Tr.an 17 (fls [18,19] Tr.nil)))))))) h12 fun _ h14=> ?_
 have h15:=h14.a.t8
 refine g0<|cw1 call57 (wvalid_cl b l Value.nilIface (.iface 177 (pV f)) (.iface 180 (pV p)) (.iface 183 (pV d)) (pV s) (iV S.now)) h15 fun _ h17=>⟨kd [],?_⟩
 refine go [rd 1 3 1 0 3 h17]<|cw0 call192 (couter_ok 2 y z om om om) h17 fun _ h19=>⟨kd [],?_⟩
 refine go [rd 1 10 1 0 1 h19,.s 1 13]<|lw (.pointer (some ⟨b,2,none⟩)) (fun _=>law_indexArr (x:=Ot 17) (i:=Ot 15) (b:=b) (off:=0) (z:=2) kr underlying52 1 kr 2 kr kr om om 2 om _) ?_
 have h22:=h19.c.t8
 refine go [rd 1 14 0 2 1 h19,rd 1 16 1 0 3 h19] ?_
 refine iG 180 (pV p) "All" [] 319 (pall_ht p S.B) h22 ?_
 rintro v K _ (⟨p20,c21,rfl,rfl⟩) h24
 have h25:=ap2 h24
 have hl26:((inS 1 (As S.B) 0).length)≤64:=by have h_:=inS_len 1 (As S.B) 0;rw[as_len,hW.bl] at h_;exact h_
 refine⟨kd [rd 0 16 3 0 3 h25],?_⟩
 refine cw1 call242 (oct_ht p20 ((inS 1 (As S.B) 0).length) c21 (allK 2 S.B) (Sl 72 3 p20 ((inS 1 (As S.B) 0).length) c21 (fl eO (allK 2 S.B))) (gv_sl _ _ _) (allK_len _ _) om 2 y z) h25.a.t9 fun _ h29=>⟨kd [],?_⟩
 refine g0 ?_
 exact en (.bool (decide ((2,y,z)∈(allK 2 S.B)))) [] ⟨_,_,rfl,⟨by rw[←thr_dec hg];rfl,rfl⟩,(tk7 (sf6 (sf6 (sf6 (sf6 (sf6 (sf6 (sf8 h29.x.x.x.d.x.f.t9))))))))⟩
theorem has_3(b f p d s l:Nat)(S:Wst)(hW:WOk S)(y z:Int)(hz0:0≤z)(hz1:z≤4294967295)(hg:KGood (3,y,z))(hy0:0≤y)(hy1:y≤63)(hz:1≤z):HQ 193 [pV b,.agg #[iV 3,iV y,uV z]] [Cl b [Value.nilIface,.iface 177 (pV f),.iface 180 (pV p),.iface 183 (pV d),pV s,pV l,iV S.now] 56,Fd f 64 S.F,Pl p S.B,Dk d S.D,Sr 239 s S.q,Lg l S.T] (.bool (decide (Thr S (3,y,z)))) [Cl b [Value.nilIface,.iface 177 (pV f),.iface 180 (pV p),.iface 183 (pV d),pV s,pV l,iV S.now] 56,Fd f 64 S.F,Pl p S.B,Dk d S.D,Sr 239 s S.q,Lg l S.T]:=by
 refine hiS func193 ntmps193 fun g w0 R h0=>g0<|nP 72 [iV 3,iV y,uV z] h0 (fun _ _ h12=> ?_)
 refine g0<|dw (Tr.fl 0 (Tr.an 1 (fls [2,3] (Tr.an 4 (fls [5,6,7,8,9,10,11,12,13,14,16] (Tr.an 15 (Tr.an 17 (fls [18,19] Tr.nil)))))))) h12 fun _ h14=> ?_
 have h15:=h14.a.t8
 refine g0<|cw1 call57 (wvalid_cl b l Value.nilIface (.iface 177 (pV f)) (.iface 180 (pV p)) (.iface 183 (pV d)) (pV s) (iV S.now)) h15 fun _ h17=>⟨kd [],?_⟩
 refine go [rd 1 3 1 0 3 h17]<|cw0 call192 (couter_ok 3 y z om om om) h17 fun _ h19=>⟨kd [],?_⟩
 refine go [rd 1 10 1 0 1 h19,.s 1 13]<|lw (.pointer (some ⟨b,3,none⟩)) (fun _=>law_indexArr (x:=Ot 17) (i:=Ot 15) (b:=b) (off:=0) (z:=3) kr underlying52 1 kr 3 kr kr om om 3 om _) ?_
 have h22:=h19.d.t8
 refine go [rd 1 14 0 3 1 h19,rd 1 16 1 0 3 h19] ?_
 refine iG 183 (pV d) "All" [] 321 (dall_ht d S.D) h22 ?_
 rintro v K _ (⟨p20,c21,rfl,rfl⟩) h24
 have h25:=ap2 h24
 have hl26:((inS 1 (As S.D) 0).length)≤64:=by have h_:=inS_len 1 (As S.D) 0;rw[as_len,hW.dl] at h_;exact h_
 refine⟨kd [rd 0 16 3 0 3 h25],?_⟩
 refine cw1 call242 (oct_ht p20 ((inS 1 (As S.D) 0).length) c21 (allK 3 S.D) (Sl 72 3 p20 ((inS 1 (As S.D) 0).length) c21 (fl eO (allK 3 S.D))) (gv_sl _ _ _) (allK_len _ _) om 3 y z) h25.a.t9 fun _ h29=>⟨kd [],?_⟩
 refine g0 ?_
 exact en (.bool (decide ((3,y,z)∈(allK 3 S.D)))) [] ⟨_,_,rfl,⟨by rw[←thr_dec hg];rfl,rfl⟩,(tk7 (sf6 (sf6 (sf6 (sf6 (sf6 (sf6 (sf8 h29.x.x.c.x.x.f.t9))))))))⟩
theorem has_ht(b f p d s l:Nat)(S:Wst)(hW:WOk S)(x y z:Int)(hz0:0≤z)(hz1:z≤4294967295):HT prog 193 [pV b,.agg #[iV x,iV y,uV z]] (wsix b f p d s l S) (fun v K=>v= .bool (decide (Thr S (x,y,z)))∧K=wsix b f p d s l S):=by
 by_cases h:KGood (x,y,z)
 · rcases kgood_k h with h1|h1|h1
   · have h2:x=1:=h1
     subst h2
     exact has_1 b f p d s l S hW y z hz0 hz1 h h.2.2.1 h.2.2.2.1 h.2.2.2.2
   · have h2:x=2:=h1
     subst h2
     exact has_2 b f p d s l S hW y z hz0 hz1 h h.2.2.1 h.2.2.2.1 h.2.2.2.2
   · have h2:x=3:=h1
     subst h2
     exact has_3 b f p d s l S hW y z hz0 hz1 h h.2.2.1 h.2.2.2.1 h.2.2.2.2
 · rw[decide_eq_false (fun h1:Thr S (x,y,z)=>h h1.1)]
   exact has_no b f p d s l S hW x y z hz0 hz1 h
section
section
variable {S : Wst} {k y z t : Int} {o : Ky}
theorem tck_arg(h:t<1∨1048576<t):tckE S t=2∧tckS S t=S:=by
 have e:tckE S t=2:=if_pos h
 exact⟨e,if_neg (by rw[e];decide)⟩
theorem tck_over(h:1≤t∧t≤1048576)(h2:1099511627776<S.now+t):tckE S t=17∧tckS S t=S:=by
 have e:tckE S t=17:=by unfold tckE;rw[if_neg om,if_pos h2]
 exact⟨e,if_neg (by rw[e];decide)⟩
theorem tck_ok(h:1≤t∧t≤1048576)(h2:S.now+t≤1099511627776):tckE S t=0∧tckS S t= {S with now:=S.now+t}:=by
 have e:tckE S t=0:=by unfold tckE;rw[if_neg om,if_neg om]
 exact⟨e,if_pos e⟩
theorem thr_at(h:Thr S (k,y,z)):(As (S.tab k))[y.toNat]? =some (1,z):=h.2
theorem thr_nat(h:KGood (k,y,z)):y=(y.toNat:Int):=by have h1:0≤y:=h.2.2.1;omega
end
end
theorem ospan_y(t:Int)(ht:1≤t∧t≤1048576):HQ 78 [iV t] [] (.bool true) []:=by
 refine hiS func78 ntmps78 fun g w0 R h0=>go [.v 1 1 (oT (t≥1)),.v 1 4 (oT (t≤1048576))] ?_
 exact enR _ [] h0
theorem ospan_n(t:Int)(ht:t<1∨1048576<t):HQ 78 [iV t] [] (.bool false) []:=by
 refine hiS func78 ntmps78 fun g w0 R h0=>go [.s 1 1] ?_
 by_cases c10:t≥1
 ·
  refine go [.v 1 1 (oT _ c10),.v 1 4 (oF (t≤1048576))] ?_
  exact enR _ [] h0
 refine go [.v 1 1 (oF _ c10)] ?_
 exact enR _ [] h0
theorem wtick_ht(b:Nat)(S:Wst)(t:Int):HQ 30 [pV b,iV t] [Wd b S] (iV (tckE S t)) [Wd b (tckS S t)]:=by
 refine hiS func30 ntmps30 fun g w0 R h0=> ?_
 obtain⟨f10,p11,d12,s13,l14,hW15,h16⟩:=wd_open h0
 have hW15n:=hW15.nl;have hW15m:=hW15.nh;have hW15t:=hW15.tn
 refine g0<|cl1 call57 (wvalid_cl b l14 Value.nilIface (.iface 177 (pV f10)) (.iface 180 (pV p11)) (.iface 183 (pV d12)) (pV s13) (iV S.now)) h16 fun _ h18=>g0 ?_
 by_cases c19:1≤t
 ·
  by_cases c20:t≤1048576
  ·
   refine cl0 call78 (ospan_y t om) h18 fun w21 h22=>go [rd 5 3 0 6 1 h22,.v 5 5 (oIr (S.now+t)),.s 5 6] ?_
   by_cases c23:S.now+t>1099511627776
   ·
    refine go [.v 5 6 (oT _ c23)] ?_
    have ht_:=tck_over (S:=S) (t:=t) om om
    have h24:sat g _ (Wd b S::_):=wd_close hW15 h22
    exact en (iV 17) [] ⟨_,[Wd b S],rfl,⟨by rw[ht_.1],by rw[ht_.2]⟩,h24⟩
   refine go [.v 5 6 (oF _ c23),rd 7 3 0 6 1 h22,.v 7 5 (oIr (S.now+t))]<|sP [(6,iV (S.now+t))] [Value.nilIface,.iface 177 (pV f10),.iface 180 (pV p11),.iface 183 (pV d12),pV s13,pV l14,iV (S.now+t)] h22 fun w25 h26=>g0 ?_
   have ht_:=tck_ok (S:=S) (t:=t) om om
   have h27:sat g _ (Wd b ({S with now:=S.now+t}:Wst)::_):=wd_close (ht_.2▸wok_tck hW15 t) h26
   exact en (iV 0) [] ⟨_,[Wd b ({S with now:=S.now+t}:Wst)],rfl,⟨by rw[ht_.1],by rw[ht_.2]⟩,h27⟩
  refine cl0 call78 (ospan_n t om) h18 fun w28 h29=>g0 ?_
  have ht_:=tck_arg (S:=S) (t:=t) om
  have h30:sat g _ (Wd b S::_):=wd_close hW15 h29
  exact en (iV 2) [] ⟨_,[Wd b S],rfl,⟨by rw[ht_.1],by rw[ht_.2]⟩,h30⟩
 refine cl0 call78 (ospan_n t om) h18 fun w31 h32=>g0 ?_
 have ht_:=tck_arg (S:=S) (t:=t) om
 have h33:sat g _ (Wd b S::_):=wd_close hW15 h32
 exact en (iV 2) [] ⟨_,[Wd b S],rfl,⟨by rw[ht_.1],by rw[ht_.2]⟩,h33⟩
theorem wnow_ht(b:Nat)(S:Wst):HQ 38 [pV b] [Wd b S] (iV S.now) [Wd b S]:=by
 refine hiS func38 ntmps38 fun g w0 R h0=> ?_
 obtain⟨f10,p11,d12,s13,l14,hW15,h16⟩:=wd_open h0
 have hW15n:=hW15.nl;have hW15m:=hW15.nh;have hW15t:=hW15.tn
 refine g0<|cl1 call57 (wvalid_cl b l14 Value.nilIface (.iface 177 (pV f10)) (.iface 180 (pV p11)) (.iface 183 (pV d12)) (pV s13) (iV S.now)) h16 fun w17 h18=>go [rd 3 3 0 6 1 h18] ?_
 have h19:sat g _ (Wd b S::_):=wd_close hW15 h18
 exact enR _ [] h19
theorem wansw_ht(wo:World)(hg:Lett wo)(b:Nat)(S:Wst)(l:List UInt8)(hl:l.length≤1099511627776):HQ 32 [pV b,.string (St l)] [Wd b S,Old wo] (iV (aswE S l)) [Wd b (aswS S l),Old wo]:=by
 refine hiS func32 ntmps32 fun g w0 R h0=> ?_
 obtain⟨f10,p11,d12,s13,l14,hW15,h16⟩:=wd_open h0
 have hW15n:=hW15.nl;have hW15m:=hW15.nh;have hW15t:=hW15.tn
 refine g0<|cl1 call57 (wvalid_cl b l14 Value.nilIface (.iface 177 (pV f10)) (.iface 180 (pV p11)) (.iface 183 (pV d12)) (pV s13) (iV S.now)) h16 fun _ h18=> ?_
 have h19:=h18.f.e.t8
 refine go [rd 3 3 0 4 1 h18]<|cl2 call81 (add_ht wo hg s13 S.q l hl) h19 fun w20 h21=>g0 ?_
 have h23:sat g _ (Wd b (aswS S l)::_):=wd_close (wok_asw hW15 l) h21.f.a.f.f.f.f.t8
 exact enR (iV (addE S.q l)) [] h23
theorem wledg_ht(b:Nat)(S:Wst):HT prog 20 [pV b] [Wd b S] (fun v K=> ∃b2:Nat,v=pV b2∧K= [Wd b S,Lg b2 S.T]):=by
 refine hiS func20 ntmps20 fun g w0 R h0=> ?_
 obtain⟨f10,p11,d12,s13,l14,hW15,h16⟩:=wd_open h0
 have hW15n:=hW15.nl;have hW15m:=hW15.nh;have hW15t:=hW15.tn
 refine g0<|cl1 call57 (wvalid_cl b l14 Value.nilIface (.iface 177 (pV f10)) (.iface 180 (pV p11)) (.iface 183 (pV d12)) (pV s13) (iV S.now)) h16 fun _ h18=> ?_
 have h20:=h18.e.t7
 refine go [rd 3 3 0 5 1 h18]<|cP call58 (lgcopy_ht l14 S.T) h20 ?_
 rintro v K w21 (⟨b19,rfl,rfl⟩) h22
 have h23:=ap2 h22
 refine g0 ?_
 have h25:sat g _ (Wd b S::_):=wd_close hW15 h23.f.f.f.f.f.t8
 exact en (pV b19) [] ⟨_,_,rfl,⟨b19,rfl,rfl⟩,h25⟩
theorem wcopy_ht(b:Nat)(S:Wst):HT prog 47 [pV b] [Wd b S] (fun v K=> ∃b2:Nat,v=pV b2∧K= [Wd b S,Wd b2 S]):=by
 refine hiS func47 ntmps47 fun g w0 R h0=> ?_
 obtain⟨f10,p11,d12,s13,l14,hW15,h16⟩:=wd_open h0
 have hW15n:=hW15.nl;have hW15m:=hW15.nh;have hW15t:=hW15.tn
 refine g0<|cl1 call57 (wvalid_cl b l14 Value.nilIface (.iface 177 (pV f10)) (.iface 180 (pV p11)) (.iface 183 (pV d12)) (pV s13) (iV S.now)) h16 fun _ h18=>g0<|dw (fls [0,1,2,3,5,6,7,8,10,11,12,13] (Tr.an 4 (Tr.an 9 (Tr.fl 14 (Tr.an 15 (Tr.fl 16 Tr.nil)))))) h18 fun _ h20=> ?_
 have h22:=h20.d.t7
 refine go [rd 3 3 0 4 1 h20,rd 3 8 0 5 1 h20,rd 3 13 0 6 1 h20]<|cG call113 (copy_ht s13 S.q) h22 ?_
 rintro v K _ (⟨b21,rfl,rfl⟩) h24
 have h25:=ap2 h24
 refine⟨kd [rd 0 13 2 6 1 h25,rd 0 8 2 5 1 h25],?_⟩
 refine cG call58 (lgcopy_ht l14 S.T) h25.f.t8 ?_
 rintro v K _ (⟨b26,rfl,rfl⟩) h29
 have h30:=ap2 h29
 refine⟨kd [rd 0 13 4 6 1 h30],?_⟩
 refine g0<|nG (fun q_=>pV q_) 56 [Value.nilIface,Value.nilIface,Value.nilIface,Value.nilIface,pV b21,pV b26,iV S.now] h30 (fun r31 _ h33=>⟨kd [],?_⟩)
 refine go [rd 4 3 5 0 4 h33]<|unS 4<|g0<|unN<|g0<|dw (fls [0,1,2,5,6] (Tr.an 3 (fls [4,7] (Tr.an 8 Tr.nil)))) h33 fun _ h35=> ?_
 have h37:=h35.f.t10
 refine g0<|cG call114 (fcopy_ht f10 64 S.F) h37 ?_
 rintro v K _ (⟨b36,rfl,rfl⟩) h39
 have h40:=ap2 h39
 refine⟨kd [],?_⟩
 refine lw (.iface 177 (pV b36)) (fun _=>law_mkIface (t:=177) (x:=Ot 43) kr underlying177 rfl (pV b36) kr _)<|lw (.pointer (some ⟨r31,1,none⟩)) (fun _=>law_indexArr (x:=Ot 46) (i:=Ot 41) (b:=r31) (off:=0) (z:=1) kr underlying52 1 kr 1 kr kr om om 1 om _)<|sG [(1,.iface 177 (pV b36))] [Value.nilIface,.iface 177 (pV b36),Value.nilIface,Value.nilIface,pV b21,pV b26,iV S.now] h40.b.t11 fun _ h43=>⟨kd [],?_⟩
 refine g0<|unN<|g0<|dw (fls [0,1,2,5,6] (Tr.an 3 (fls [4,7] (Tr.an 8 Tr.nil)))) h43 fun _ h45=> ?_
 have h47:=h45.h.t11
 refine g0<|cG call115 (pcopy_ht p11 S.B) h47 ?_
 rintro v K _ (⟨b46,rfl,rfl⟩) h49
 have h50:=ap2 h49
 refine⟨kd [],?_⟩
 refine lw (.iface 180 (pV b46)) (fun _=>law_mkIface (t:=180) (x:=Ot 54) kr underlying180 rfl (pV b46) kr _)<|lw (.pointer (some ⟨r31,2,none⟩)) (fun _=>law_indexArr (x:=Ot 57) (i:=Ot 52) (b:=r31) (off:=0) (z:=2) kr underlying52 1 kr 2 kr kr om om 2 om _)<|sG [(2,.iface 180 (pV b46))] [Value.nilIface,.iface 177 (pV b36),.iface 180 (pV b46),Value.nilIface,pV b21,pV b26,iV S.now] h50.b.t12 fun _ h53=>⟨kd [],?_⟩
 refine g0<|unN<|g0<|dw (fls [0,1,2,5,6] (Tr.an 3 (fls [4,7] (Tr.an 8 Tr.nil)))) h53 fun _ h55=> ?_
 have h57:=h55.j.t12
 refine g0<|cG call116 (lcopy_ht d12 S.D) h57 ?_
 rintro v K _ (⟨b56,rfl,rfl⟩) h59
 have h60:=ap2 h59
 refine⟨kd [],?_⟩
 refine lw (.iface 183 (pV b56)) (fun _=>law_mkIface (t:=183) (x:=Ot 65) kr underlying183 rfl (pV b56) kr _)<|lw (.pointer (some ⟨r31,3,none⟩)) (fun _=>law_indexArr (x:=Ot 68) (i:=Ot 63) (b:=r31) (off:=0) (z:=3) kr underlying52 1 kr 3 kr kr om om 3 om _)<|sG [(3,.iface 183 (pV b56))] [Value.nilIface,.iface 177 (pV b36),.iface 180 (pV b46),.iface 183 (pV b56),pV b21,pV b26,iV S.now] h60.b.t13 fun w62 h63=>⟨kd [],?_⟩
 refine g0<|unN<|g0<|up<|g0 ?_
 have h65:sat g _ (Wd b S::_):=wd_close hW15 h63.x.j.c.e.x.k.t13
 have h67:sat g _ (Wd r31 S::_):=wd_close hW15 h65.e.f.d.e.f.f.t8
 exact en (pV r31) [] ⟨_,_,rfl,⟨r31,rfl,rfl⟩,h67.a.t3⟩
section
section
variable {S : Wst} {k a y z wy : Int} {o : Ky}
theorem acq_arg(h: ¬godP k a):acqE S k a=2∧acqO S k a=(0,0,0)∧acqS S k a=S:=by
 have e:acqE S k a=2:=if_pos h
 exact⟨e,if_neg (by rw[e];decide),if_pos (.inl h)⟩
theorem acq_err(h:godP k a){e:Int}(he:grwE S k a=e)(h0:e≠0):acqE S k a=e∧acqO S k a=(0,0,0)∧acqS S k a=S:=by
 have e1:acqE S k a=e:=by unfold acqE;rw[if_neg (fun q=>q h),if_pos (by rw[he];exact h0),he]
 exact⟨e1,if_neg (by rw[e1];exact h0),if_pos (.inr (by rw[he];exact h0))⟩
theorem acq_later(h:godP k a)(he:grwE S k a=0)(hq:S.q.headD 1=2):acqE S k a=15∧acqO S k a=(0,0,0)∧acqS S k a= {S with q:=S.q.tail}:=by
 have e1:acqE S k a=15:=by unfold acqE;rw[if_neg (fun q=>q h),if_neg (fun q=>q he),if_pos hq]
 refine⟨e1,if_neg (by rw[e1];decide),?_⟩
 unfold acqS
 rw[if_neg (by rintro(q|q);exact q h;exact q he),if_neg (by rw[e1];decide)]
theorem acq_fail(h:godP k a)(he:grwE S k a=0)(hq2:S.q.headD 1≠2)(hq:S.q.headD 1=3):acqE S k a=14∧acqO S k a=(0,0,0)∧acqS S k a= {S with q:=S.q.tail}:=by
 have e1:acqE S k a=14:=by unfold acqE;rw[if_neg (fun q=>q h),if_neg (fun q=>q he),if_neg hq2,if_pos hq]
 refine⟨e1,if_neg (by rw[e1];decide),?_⟩
 unfold acqS
 rw[if_neg (by rintro(q|q);exact q h;exact q he),if_neg (by rw[e1];decide)]
theorem acq_ok(h:godP k a)(he:grwE S k a=0)(hq2:S.q.headD 1≠2)(hq:S.q.headD 1≠3):acqE S k a=0∧acqO S k a=nam k (S.tab k)∧acqS S k a=({S with q:=S.q.tail}:Wst).put k (grw (S.tab k) (valO S k a)):=by
 have e1:acqE S k a=0:=by unfold acqE;rw[if_neg (fun q=>q h),if_neg (fun q=>q he),if_neg hq2,if_neg hq]
 refine⟨e1,if_pos e1,?_⟩
 unfold acqS
 rw[if_neg (by rintro(q|q);exact q h;exact q he),if_pos e1]
theorem god1(h:0≤a∧a≤65535):godP 1 a:= .inl ⟨rfl,h.1,h.2⟩
theorem god2(h:1≤a∧a≤65536):godP 2 a:= .inr (.inl ⟨rfl,h.1,h.2⟩)
theorem god3(h:1≤a∧a≤1048576):godP 3 a:= .inr (.inr ⟨rfl,h.1,h.2⟩)
theorem god_no1(h: ¬(0≤a∧a≤65535)): ¬godP 1 a:=by unfold godP;omega
theorem god_no2(h: ¬(1≤a∧a≤65536)): ¬godP 2 a:=by unfold godP;omega
theorem god_no3(h: ¬(1≤a∧a≤1048576)): ¬godP 3 a:=by unfold godP;omega
theorem god_no(h:k<1∨3<k): ¬godP k a:=by unfold godP;omega
theorem fre_pos'{X:Xs}(h: ¬fre X=none):0<(inS 0 (As X) 0).length:=by
 rcases Nat.eq_zero_or_pos (inS 0 (As X) 0).length with h0|h0
 · exact absurd (fre_none.2 h0) h
 · exact h0
theorem opn_grw(h:0≤a∧a≤65535):opnE S.F a=grwE S 1 a∧(opnE S.F a=0→opnO S.F a=nam 1 S.F∧opnX S.F a=grw S.F a):=by
 have e:grwE S 1 a=if fre S.F=none then 4 else 0:=by
  unfold grwE
  rw[if_neg (by rintro⟨q,_⟩;exact absurd q dc),if_neg (by rintro⟨q,_⟩;exact absurd q dc)]
  rfl
 rw[e]
 by_cases hf:fre S.F=none
 · rw[if_pos hf]
   have h1:=opn_full (X:=S.F) h (fre_none.1 hf)
   exact⟨h1.2.1,fun q=>absurd (h1.2.1.symm.trans q) dc⟩
 · rw[if_neg hf]
   have hp:=fre_pos (fre_pos' hf)
   have h1:=opn_ok (X:=S.F) (v:=a) h hp
   refine⟨h1.2.1,fun _=>⟨?_,?_⟩⟩
   · rw[h1.1];unfold nam;rw[hp]
   · rw[h1.2.2];unfold grw;rw[hp]
theorem pin_grw(h:1≤a∧a≤65536):pinE S.B a=grwE S 2 a∧(pinE S.B a=0→pinO S.B a=nam 2 S.B∧pinX S.B a=grw S.B a):=by
 refine⟨?_,fun q=>⟨if_pos q,if_pos q⟩⟩
 unfold grwE pinE
 by_cases h1:1048576<used S.B+a
 · rw[if_pos h1,if_pos ⟨rfl,h1⟩]
 · rw[if_neg h1,if_neg (fun q=>h1 q.2),if_neg (by rintro⟨q,_⟩;exact absurd q dc)]
   rfl
theorem gnt_grw(h:1≤a∧a≤1048576):gntE S.D a S.now=grwE S 3 a∧(gntE S.D a S.now=0→gntO S.D a S.now=nam 3 S.D∧gntX S.D a S.now=grw S.D (S.now+a)):=by
 refine⟨?_,fun q=>⟨if_pos q,if_pos q⟩⟩
 have e1: ¬((3:Int)=2∧1048576<used S.B+a):=fun q=>absurd q.1 dc
 by_cases h1:1099511627776-a<S.now
 · exact(if_pos h1:gntE S.D a S.now=17).trans ((if_neg e1).trans (if_pos ⟨rfl,h1⟩)).symm
 · exact(if_neg h1:gntE S.D a S.now=tkE S.D).trans ((if_neg e1).trans (if_neg (fun q=>h1 q.2))).symm
theorem acq_ok1(h:0≤a∧a≤65535)(he:opnE S.F a=0)(hq2:S.q.headD 1≠2)(hq:S.q.headD 1≠3):acqE S 1 a=0∧acqO S 1 a=opnO S.F a∧acqS S 1 a= {S with q:=S.q.tail,F:=opnX S.F a}:=by
 obtain⟨h1,h2⟩:=opn_grw (S:=S) h
 obtain⟨h3,h4⟩:=h2 he
 obtain⟨h5,h6,h7⟩:=acq_ok (S:=S) (god1 h) (h1▸he) hq2 hq
 exact⟨h5,h6.trans h3.symm,h7.trans (by rw[h4];rfl)⟩
theorem acq_ok2(h:1≤a∧a≤65536)(he:pinE S.B a=0)(hq2:S.q.headD 1≠2)(hq:S.q.headD 1≠3):acqE S 2 a=0∧acqO S 2 a=pinO S.B a∧acqS S 2 a= {S with q:=S.q.tail,B:=pinX S.B a}:=by
 obtain⟨h1,h2⟩:=pin_grw (S:=S) h
 obtain⟨h3,h4⟩:=h2 he
 obtain⟨h5,h6,h7⟩:=acq_ok (S:=S) (god2 h) (h1▸he) hq2 hq
 exact⟨h5,h6.trans h3.symm,h7.trans (by rw[h4];rfl)⟩
theorem acq_ok3(h:1≤a∧a≤1048576)(he:gntE S.D a S.now=0)(hq2:S.q.headD 1≠2)(hq:S.q.headD 1≠3):acqE S 3 a=0∧acqO S 3 a=gntO S.D a S.now∧acqS S 3 a= {S with q:=S.q.tail,D:=gntX S.D a S.now}:=by
 obtain⟨h1,h2⟩:=gnt_grw (S:=S) h
 obtain⟨h3,h4⟩:=h2 he
 obtain⟨h5,h6,h7⟩:=acq_ok (S:=S) (god3 h) (h1▸he) hq2 hq
 exact⟨h5,h6.trans h3.symm,h7.trans (by rw[h4];rfl)⟩
theorem rel_arg(h: ¬KGood o∨wy<1∨3<wy):relE S o wy=2∧relA S o wy=0∧relS S o wy=S:=by
 have e:relE S o wy=2:=if_pos h
 exact⟨e,if_neg (by rw[e];decide),if_pos (by rw[e];decide)⟩
theorem rel_none(h:KGood o)(hw:1≤wy∧wy≤3)(hT: ¬Thr S o):relE S o wy=5∧relA S o wy=0∧relS S o wy=S:=by
 have e:relE S o wy=5:=by unfold relE;rw[if_neg (by rintro(q|q);exact q h;omega),if_pos hT]
 exact⟨e,if_neg (by rw[e];decide),if_pos (by rw[e];decide)⟩
theorem rel_full(hw:1≤wy∧wy≤3)(hT:Thr S o)(hn:10000≤S.T.length):relE S o wy=4∧relA S o wy=0∧relS S o wy=S:=by
 have e:relE S o wy=4:=by unfold relE;rw[if_neg (by rintro(q|q);exact q hT.1;omega),if_neg (fun q=>q hT),if_pos hn]
 exact⟨e,if_neg (by rw[e];decide),if_pos (by rw[e];decide)⟩
theorem rel_ok(hw:1≤wy∧wy≤3)(hT:Thr S o)(hn:S.T.length<10000):relE S o wy=0∧relA S o wy=S.q.headD 1∧relS S o wy=if S.q.headD 1=1 then ({S with q:=S.q.tail,T:=S.T++ [⟨S.now,o,wy,S.q.headD 1⟩]}:Wst).put o.1 (giv (S.tab o.1) o) else {S with q:=S.q.tail,T:=S.T++ [⟨S.now,o,wy,S.q.headD 1⟩]}:=by
 have e:relE S o wy=0:=by unfold relE;rw[if_neg (by rintro(q|q);exact q hT.1;omega),if_neg (fun q=>q hT),if_neg om]
 exact⟨e,if_pos e,if_neg (by rw[e];decide)⟩
theorem rel_attP(hW:WOk S)(h:KGood o)(hw:1≤wy∧wy≤3):attP ⟨S.now,o,wy,S.q.headD 1⟩:=by
 have:=headD_bd hW.qb
 exact⟨hW.nl,hW.nh,kgood_iff.2 h,hw.1,hw.2,this.1,this.2⟩
theorem cls_giv(hT:Thr S (1,y,z)):clsX S.F (1,y,z)=giv S.F (1,y,z):=by
 obtain⟨hg,h1⟩:=hT
 have h2:errA (As S.F) (1,y,z)=0:=chk_ok (As S.F) (q:=y.toNat) (s:=(1,z)) rfl hg.2.2.2.1 hg.2.2.2.2 (thr_nat hg) h1 ⟨rfl,rfl⟩
 unfold clsX giv
 rw[if_pos h2]
end
end
theorem god_1y(a:Int)(ha:0≤a∧a≤65535):HQ 135 [iV 1,iV a] [] (.bool true) []:=by
 refine hiS func135 ntmps135 fun g w0 R h0=>go [.v 3 1 (oT (a≥0)),.v 3 4 (oT (a≤65535))] ?_
 exact enR _ [] h0
theorem god_1n(a:Int)(ha:a<0∨65535<a):HQ 135 [iV 1,iV a] [] (.bool false) []:=by
 refine hiS func135 ntmps135 fun g w0 R h0=>go [.s 3 1] ?_
 by_cases c10:a≥0
 ·
  refine go [.v 3 1 (oT _ c10),.v 3 4 (oF (a≤65535))] ?_
  exact enR _ [] h0
 refine go [.v 3 1 (oF _ c10)] ?_
 exact enR _ [] h0
theorem god_2y(a:Int)(ha:1≤a∧a≤65536):HQ 135 [iV 2,iV a] [] (.bool true) []:=by
 refine hiS func135 ntmps135 fun g w0 R h0=>go [.v 5 1 (oT (a≥1)),.v 5 4 (oT (a≤65536))] ?_
 exact enR _ [] h0
theorem god_2n(a:Int)(ha:a<1∨65536<a):HQ 135 [iV 2,iV a] [] (.bool false) []:=by
 refine hiS func135 ntmps135 fun g w0 R h0=>go [.s 5 1] ?_
 by_cases c10:a≥1
 ·
  refine go [.v 5 1 (oT _ c10),.v 5 4 (oF (a≤65536))] ?_
  exact enR _ [] h0
 refine go [.v 5 1 (oF _ c10)] ?_
 exact enR _ [] h0
theorem god_3y(a:Int)(ha:1≤a∧a≤1048576):HQ 135 [iV 3,iV a] [] (.bool true) []:=by
 refine hiS func135 ntmps135 fun g w0 R h0=>g0<|cl0 call78 (ospan_y a om) h0 fun _ h11=>g0 ?_
 exact enR _ [] h11
theorem god_3n(a:Int)(ha:a<1∨1048576<a):HQ 135 [iV 3,iV a] [] (.bool false) []:=by
 refine hiS func135 ntmps135 fun g w0 R h0=>g0 ?_
 by_cases c10:1≤a
 ·
  refine cl0 call78 (ospan_n a om) h0 fun _ h12=>g0 ?_
  exact enR _ [] h12
 refine cl0 call78 (ospan_n a om) h0 fun _ h14=>g0 ?_
 exact enR _ [] h14
theorem god_0(k a:Int)(hk:k<1∨3<k):HQ 135 [iV k,iV a] [] (.bool false) []:=by
 refine hiS func135 ntmps135 fun g w0 R h0=>go [.v 2 0 (qeF k 1),.v 4 0 (qeF k 2),.v 6 0 (qeF k 3)] ?_
 exact enR _ [] h0
theorem grown_1(b f p d s l:Nat)(S:Wst)(hW:WOk S)(a:Int)(ha:0≤a∧a≤65535):HT prog 136 [pV b,iV 1,iV a] [Cl b [Value.nilIface,.iface 177 (pV f),.iface 180 (pV p),.iface 183 (pV d),pV s,pV l,iV S.now] 56,Fd f 64 S.F,Pl p S.B,Dk d S.D,Sr 239 s S.q,Lg l S.T] (fun v K=> ∃c:Nat,v= .tuple #[.iface 177 (pV c),.agg #[iV ((opnO S.F a).1),iV ((opnO S.F a).2.1),uV ((opnO S.F a).2.2)],iV (opnE S.F a)]∧K= [Cl b [Value.nilIface,.iface 177 (pV f),.iface 180 (pV p),.iface 183 (pV d),pV s,pV l,iV S.now] 56,Fd f 64 S.F,Pl p S.B,Dk d S.D,Sr 239 s S.q,Lg l S.T,Fd c 64 (opnX S.F a)]):=by
 refine hiS func136 ntmps136 fun g w0 R h0=> ?_
 have hWn:=hW.nl;have hWm:=hW.nh;have hWt:=hW.tn
 refine g0<|nP 72 [iV 0,iV 0,uV 0] h0 (fun _ _ h12=> ?_)
 refine go [.s 1 4]<|lwP (.pointer (some ⟨b,1,none⟩)) (law_indexArr (x:=Ot 24) (i:=Ot 22) (b:=b) (off:=0) (z:=1) kr underlying52 1 kr 1 kr kr om om 1 om _) ?_
 have h14:=h12.b.t8
 refine go [rd 1 5 1 1 1 h12]<|cP call114 (fcopy_ht f 64 S.F) h14 ?_
 rintro v K _ (⟨b13,rfl,rfl⟩) h16
 have h18:=(ap2 h16).a.t9
 refine g0<|cl1 call201 (fopen_ht b13 64 S.F a) h18 fun _ h20=>g0<|nP 72 [iV 0,iV 0,uV 0] h20 (fun _ _ h23=> ?_)
 refine sA [iV ((opnO S.F a).1),iV ((opnO S.F a).2.1),uV ((opnO S.F a).2.2)] h23 fun _ h25=>g0<|dw (fls [0,1,2,3,4] (Tr.an 5 (Tr.fl 6 Tr.nil))) h25 fun _ h27=>go [.s 6 1]<|lw (.iface 177 (pV b13)) (fun _=>law_mkIface (t:=177) (x:=Ot 38) kr underlying177 rfl (pV b13) kr _) ?_
 have h28:=h27.c.t10
 refine go [rd 6 2 0 0 3 h27]<|sB [iV ((opnO S.F a).1),iV ((opnO S.F a).2.1),uV ((opnO S.F a).2.2)] h28 fun _ h30=>⟨kd [],?_⟩
 refine g0 ?_
 exact en (.tuple #[.iface 177 (pV b13),.agg #[iV ((opnO S.F a).1),iV ((opnO S.F a).2.1),uV ((opnO S.F a).2.2)],iV (opnE S.F a)]) [rd 0 0 0 0 3 h30] ⟨_,_,rfl,⟨b13,rfl,rfl⟩,(tk8 (sf7 (sf7 (sf7 (sf7 (sf7 (sf7 (sf7 (sf9 h30.b.h.h.h.h.x.h.t10)))))))))⟩
theorem grown_2(b f p d s l:Nat)(S:Wst)(hW:WOk S)(a:Int)(ha:1≤a∧a≤65536):HT prog 136 [pV b,iV 2,iV a] [Cl b [Value.nilIface,.iface 177 (pV f),.iface 180 (pV p),.iface 183 (pV d),pV s,pV l,iV S.now] 56,Fd f 64 S.F,Pl p S.B,Dk d S.D,Sr 239 s S.q,Lg l S.T] (fun v K=> ∃c:Nat,v= .tuple #[.iface 180 (pV c),.agg #[iV ((pinO S.B a).1),iV ((pinO S.B a).2.1),uV ((pinO S.B a).2.2)],iV (pinE S.B a)]∧K= [Cl b [Value.nilIface,.iface 177 (pV f),.iface 180 (pV p),.iface 183 (pV d),pV s,pV l,iV S.now] 56,Fd f 64 S.F,Pl p S.B,Dk d S.D,Sr 239 s S.q,Lg l S.T,Pl c (pinX S.B a)]):=by
 refine hiS func136 ntmps136 fun g w0 R h0=> ?_
 have hWn:=hW.nl;have hWm:=hW.nh;have hWt:=hW.tn
 refine g0<|nP 72 [iV 0,iV 0,uV 0] h0 (fun _ _ h12=> ?_)
 refine go [.s 1 4]<|lwP (.pointer (some ⟨b,2,none⟩)) (law_indexArr (x:=Ot 24) (i:=Ot 22) (b:=b) (off:=0) (z:=2) kr underlying52 1 kr 2 kr kr om om 2 om _) ?_
 have h14:=h12.c.t8
 refine go [rd 1 5 1 2 1 h12]<|cP call115 (pcopy_ht p S.B) h14 ?_
 rintro v K _ (⟨b13,rfl,rfl⟩) h16
 have h18:=(ap2 h16).a.t9
 refine g0<|cl1 call202 (pin_ht b13 S.B a om) h18 fun _ h20=>g0<|nP 72 [iV 0,iV 0,uV 0] h20 (fun _ _ h23=> ?_)
 refine sA [iV ((pinO S.B a).1),iV ((pinO S.B a).2.1),uV ((pinO S.B a).2.2)] h23 fun _ h25=>g0<|dw (fls [0,1,2,3,4] (Tr.an 5 (Tr.fl 6 Tr.nil))) h25 fun _ h27=>go [.s 11 1]<|lw (.iface 180 (pV b13)) (fun _=>law_mkIface (t:=180) (x:=Ot 53) kr underlying180 rfl (pV b13) kr _) ?_
 have h28:=h27.c.t10
 refine go [rd 11 2 0 0 3 h27]<|sB [iV ((pinO S.B a).1),iV ((pinO S.B a).2.1),uV ((pinO S.B a).2.2)] h28 fun _ h30=>⟨kd [],?_⟩
 refine g0 ?_
 exact en (.tuple #[.iface 180 (pV b13),.agg #[iV ((pinO S.B a).1),iV ((pinO S.B a).2.1),uV ((pinO S.B a).2.2)],iV (pinE S.B a)]) [rd 0 0 0 0 3 h30] ⟨_,_,rfl,⟨b13,rfl,rfl⟩,(tk8 (sf7 (sf7 (sf7 (sf7 (sf7 (sf7 (sf7 (sf9 h30.b.h.h.h.f.h.h.t10)))))))))⟩
theorem grown_3(b f p d s l:Nat)(S:Wst)(hW:WOk S)(a:Int)(ha:1≤a∧a≤1048576):HT prog 136 [pV b,iV 3,iV a] [Cl b [Value.nilIface,.iface 177 (pV f),.iface 180 (pV p),.iface 183 (pV d),pV s,pV l,iV S.now] 56,Fd f 64 S.F,Pl p S.B,Dk d S.D,Sr 239 s S.q,Lg l S.T] (fun v K=> ∃c:Nat,v= .tuple #[.iface 183 (pV c),.agg #[iV ((gntO S.D a S.now).1),iV ((gntO S.D a S.now).2.1),uV ((gntO S.D a S.now).2.2)],iV (gntE S.D a S.now)]∧K= [Cl b [Value.nilIface,.iface 177 (pV f),.iface 180 (pV p),.iface 183 (pV d),pV s,pV l,iV S.now] 56,Fd f 64 S.F,Pl p S.B,Dk d S.D,Sr 239 s S.q,Lg l S.T,Dk c (gntX S.D a S.now)]):=by
 refine hiS func136 ntmps136 fun g w0 R h0=> ?_
 have hWn:=hW.nl;have hWm:=hW.nh;have hWt:=hW.tn
 refine g0<|nP 72 [iV 0,iV 0,uV 0] h0 (fun _ _ h12=> ?_)
 refine go [.s 1 4]<|lwP (.pointer (some ⟨b,3,none⟩)) (law_indexArr (x:=Ot 24) (i:=Ot 22) (b:=b) (off:=0) (z:=3) kr underlying52 1 kr 3 kr kr om om 3 om _) ?_
 have h14:=h12.d.t8
 refine go [rd 1 5 1 3 1 h12]<|cP call116 (lcopy_ht d S.D) h14 ?_
 rintro v K _ (⟨b13,rfl,rfl⟩) h16
 have h17:=ap2 h16
 have h18:=h17.a.t9
 refine go [rd 15 5 3 6 1 h17]<|cl1 call203 (grant_ht b13 S.D a S.now om om) h18 fun _ h20=>g0<|nP 72 [iV 0,iV 0,uV 0] h20 (fun _ _ h23=> ?_)
 refine sA [iV ((gntO S.D a S.now).1),iV ((gntO S.D a S.now).2.1),uV ((gntO S.D a S.now).2.2)] h23 fun _ h25=>g0<|dw (fls [0,1,2,3,4] (Tr.an 5 (Tr.fl 6 Tr.nil))) h25 fun _ h27=>go [.s 16 1]<|lw (.iface 183 (pV b13)) (fun _=>law_mkIface (t:=183) (x:=Ot 72) kr underlying183 rfl (pV b13) kr _) ?_
 have h28:=h27.c.t10
 refine go [rd 16 2 0 0 3 h27]<|sB [iV ((gntO S.D a S.now).1),iV ((gntO S.D a S.now).2.1),uV ((gntO S.D a S.now).2.2)] h28 fun _ h30=>⟨kd [],?_⟩
 refine g0 ?_
 exact en (.tuple #[.iface 183 (pV b13),.agg #[iV ((gntO S.D a S.now).1),iV ((gntO S.D a S.now).2.1),uV ((gntO S.D a S.now).2.2)],iV (gntE S.D a S.now)]) [rd 0 0 0 0 3 h30] ⟨_,_,rfl,⟨b13,rfl,rfl⟩,(tk8 (sf7 (sf7 (sf7 (sf7 (sf7 (sf7 (sf7 (sf9 h30.b.h.h.e.h.h.h.t10)))))))))⟩
theorem wacq_1(b:Nat)(S:Wst)(a:Int)(ha:0≤a∧a≤65535):HQ 68 [pV b,iV 1,iV a] [Wd b S] (.tuple #[.agg #[iV (acqO S 1 a).1,iV (acqO S 1 a).2.1,uV (acqO S 1 a).2.2],iV (acqE S 1 a)]) [Wd b (acqS S 1 a)]:=by
 refine hiS func68 ntmps68 fun g w0 R h0=> ?_
 obtain⟨f10,p11,d12,s13,l14,hW15,h16⟩:=wd_open h0
 have hW15n:=hW15.nl;have hW15m:=hW15.nh;have hW15t:=hW15.tn
 refine g0<|nP 72 [iV 0,iV 0,uV 0] h16 (fun r17 _ h19=> ?_)
 have h20:=h19.a.t8
 refine g0<|cl1 call57 (wvalid_cl b l14 Value.nilIface (.iface 177 (pV f10)) (.iface 180 (pV p11)) (.iface 183 (pV d12)) (pV s13) (iV S.now)) h20 fun _ h22=>g0<|cl0 call135 (god_1y a om) h22 fun _ h24=> ?_
 have h26:=h24.f.f.f.f.f.e.t8
 refine g0<|cP call136 (grown_1 b f10 p11 d12 s13 l14 S hW15 a om) h26 ?_
 rintro v K _ (⟨c25,rfl,rfl⟩) h28
 have h29:=ap7 h28
 refine g0<|nP 72 [iV 0,iV 0,uV 0] h29 (fun r30 _ h32=> ?_)
 refine g0<|sA [iV ((opnO S.F a).1),iV ((opnO S.F a).2.1),uV ((opnO S.F a).2.2)] h32 fun _ h34=>go [.s 6 1] ?_
 by_cases c35:(opnE S.F a)=0
 ·
  have h36:=h34.e.t10
  refine go [.v 6 1 (qnF (opnE S.F a) 0),rd 8 3 1 4 1 h34]<|cl1 call137 (next_ht s13 S.q) h36 fun _ h38=>go [.s 9 0] ?_
  by_cases c39:(S.q.headD 1)=2
  ·
   have h40:=h38.h.t10
   refine go [.v 9 0 (qeT _ _ c39)]<|sA [iV 0,iV 0,uV 0] h40 fun w41 h42=>g0 ?_
   have hp_:=acq_later (S:=S) (god1 ha) ((opn_grw (S:=S) ha).1.symm.trans om) om
   have h43:=h42.x.b.x.x.x.x.t10
   have h44:sat g _ (Wd b ({S with q:=S.q.tail}:Wst)::_):=wd_close (hp_.2.2▸wok_acq hW15 1 a) h43
   exact en (.tuple #[.agg #[iV 0,iV 0,uV 0],iV 15]) [rd 0 0 0 0 3 h42] ⟨_,[Wd b ({S with q:=S.q.tail}:Wst)],rfl,⟨by rw[hp_.1,hp_.2.1],by rw[hp_.2.2]⟩,h44.d.a.t2⟩
  refine go [.v 9 0 (qeF _ _ c39),.s 11 0] ?_
  by_cases c46:(S.q.headD 1)=3
  ·
   have h47:=h38.h.t10
   refine go [.v 11 0 (qeT _ _ c46)]<|sA [iV 0,iV 0,uV 0] h47 fun w48 h49=>g0 ?_
   have hp_:=acq_fail (S:=S) (god1 ha) ((opn_grw (S:=S) ha).1.symm.trans om) om om
   have h50:=h49.x.b.x.x.x.x.t10
   have h51:sat g _ (Wd b ({S with q:=S.q.tail}:Wst)::_):=wd_close (hp_.2.2▸wok_acq hW15 1 a) h50
   exact en (.tuple #[.agg #[iV 0,iV 0,uV 0],iV 14]) [rd 0 0 0 0 3 h49] ⟨_,[Wd b ({S with q:=S.q.tail}:Wst)],rfl,⟨by rw[hp_.1,hp_.2.1],by rw[hp_.2.2]⟩,h51.d.a.t2⟩
  refine go [.v 11 0 (qeF _ _ c46),.s 13 5]<|lwP (.pointer (some ⟨b,1,none⟩)) (law_indexArr (x:=Ot 49) (i:=Ot 46) (b:=b) (off:=0) (z:=1) kr underlying52 1 kr 1 kr kr om om 1 om _)<|sP [(1,.iface 177 (pV c25))] [Value.nilIface,.iface 177 (pV c25),.iface 180 (pV p11),.iface 183 (pV d12),pV s13,pV l14,iV S.now] h38.b.t10 fun _ h55=> ?_
  have h56:=h55.h.t10
  refine go [rd 14 0 2 0 3 h55]<|sA [iV ((opnO S.F a).1),iV ((opnO S.F a).2.1),uV ((opnO S.F a).2.2)] h56 fun w57 h58=>g0 ?_
  have hp_:=acq_ok1 (S:=S) ha om om om
  have h59:=h58.x.c.x.x.h.f.t10
  have h60:sat g _ (Wd b ({S with q:=S.q.tail,F:=opnX S.F a}:Wst)::_):=wd_close (hp_.2.2▸wok_acq hW15 1 a) h59
  exact en (.tuple #[.agg #[iV ((opnO S.F a).1),iV ((opnO S.F a).2.1),uV ((opnO S.F a).2.2)],iV 0]) [rd 0 0 0 0 3 h58] ⟨_,[Wd b ({S with q:=S.q.tail,F:=opnX S.F a}:Wst)],rfl,⟨by rw[hp_.1,hp_.2.1],by rw[hp_.2.2]⟩,h60.d.a.t2⟩
 have h62:=h34.h.t10
 refine go [.v 6 1 (qnT (opnE S.F a) 0)]<|sA [iV 0,iV 0,uV 0] h62 fun w63 h64=>g0 ?_
 have hp_:=acq_err (S:=S) (god1 ha) (opn_grw (S:=S) ha).1.symm om
 have h66:sat g _ (Wd b S::_):=wd_close hW15 h64.x.x.x.x.x.x.t10
 exact en (.tuple #[.agg #[iV 0,iV 0,uV 0],iV (opnE S.F a)]) [rd 0 0 0 0 3 h64] ⟨_,[Wd b S],rfl,⟨by rw[hp_.1,hp_.2.1],by rw[hp_.2.2]⟩,h66.d.a.t2⟩
theorem wacq_1n(b:Nat)(S:Wst)(a:Int)(ha:a<0∨65535<a)(hng: ¬godP 1 a):HQ 68 [pV b,iV 1,iV a] [Wd b S] (.tuple #[.agg #[iV (acqO S 1 a).1,iV (acqO S 1 a).2.1,uV (acqO S 1 a).2.2],iV (acqE S 1 a)]) [Wd b (acqS S 1 a)]:=by
 refine hiS func68 ntmps68 fun g w0 R h0=> ?_
 obtain⟨f10,p11,d12,s13,l14,hW15,h16⟩:=wd_open h0
 have hW15n:=hW15.nl;have hW15m:=hW15.nh;have hW15t:=hW15.tn
 refine g0<|nP 72 [iV 0,iV 0,uV 0] h16 (fun r17 _ h19=> ?_)
 have h20:=h19.a.t8
 refine g0<|cl1 call57 (wvalid_cl b l14 Value.nilIface (.iface 177 (pV f10)) (.iface 180 (pV p11)) (.iface 183 (pV d12)) (pV s13) (iV S.now)) h20 fun _ h22=>g0 ?_
 by_cases c23:0≤a
 ·
  refine cl0 call135 (god_1n a om) h22 fun _ h25=> ?_
  have h26:=h25.a.t8
  refine g0<|sA [iV 0,iV 0,uV 0] h26 fun w27 h28=>g0 ?_
  have hp_:=acq_arg (S:=S) (k:=1) (a:=a) hng
  have h30:sat g _ (Wd b S::_):=wd_close hW15 h28.f.f.f.f.f.f.t8
  exact en (.tuple #[.agg #[iV 0,iV 0,uV 0],iV 2]) [rd 0 0 0 0 3 h28] ⟨_,[Wd b S],rfl,⟨by rw[hp_.1,hp_.2.1],by rw[hp_.2.2]⟩,h30.B.t2⟩
 refine cl0 call135 (god_1n a om) h22 fun _ h33=> ?_
 have h34:=h33.a.t8
 refine g0<|sA [iV 0,iV 0,uV 0] h34 fun w35 h36=>g0 ?_
 have hp_:=acq_arg (S:=S) (k:=1) (a:=a) hng
 have h38:sat g _ (Wd b S::_):=wd_close hW15 h36.f.f.f.f.f.f.t8
 exact en (.tuple #[.agg #[iV 0,iV 0,uV 0],iV 2]) [rd 0 0 0 0 3 h36] ⟨_,[Wd b S],rfl,⟨by rw[hp_.1,hp_.2.1],by rw[hp_.2.2]⟩,h38.B.t2⟩
theorem wacq_2(b:Nat)(S:Wst)(a:Int)(ha:1≤a∧a≤65536):HQ 68 [pV b,iV 2,iV a] [Wd b S] (.tuple #[.agg #[iV (acqO S 2 a).1,iV (acqO S 2 a).2.1,uV (acqO S 2 a).2.2],iV (acqE S 2 a)]) [Wd b (acqS S 2 a)]:=by
 refine hiS func68 ntmps68 fun g w0 R h0=> ?_
 obtain⟨f10,p11,d12,s13,l14,hW15,h16⟩:=wd_open h0
 have hW15n:=hW15.nl;have hW15m:=hW15.nh;have hW15t:=hW15.tn
 refine g0<|nP 72 [iV 0,iV 0,uV 0] h16 (fun r17 _ h19=> ?_)
 have h20:=h19.a.t8
 refine g0<|cl1 call57 (wvalid_cl b l14 Value.nilIface (.iface 177 (pV f10)) (.iface 180 (pV p11)) (.iface 183 (pV d12)) (pV s13) (iV S.now)) h20 fun _ h22=>g0<|cl0 call135 (god_2y a om) h22 fun _ h24=> ?_
 have h26:=h24.f.f.f.f.f.e.t8
 refine g0<|cP call136 (grown_2 b f10 p11 d12 s13 l14 S hW15 a om) h26 ?_
 rintro v K _ (⟨c25,rfl,rfl⟩) h28
 have h29:=ap7 h28
 refine g0<|nP 72 [iV 0,iV 0,uV 0] h29 (fun r30 _ h32=> ?_)
 refine g0<|sA [iV ((pinO S.B a).1),iV ((pinO S.B a).2.1),uV ((pinO S.B a).2.2)] h32 fun _ h34=>go [.s 6 1] ?_
 by_cases c35:(pinE S.B a)=0
 ·
  have h36:=h34.e.t10
  refine go [.v 6 1 (qnF (pinE S.B a) 0),rd 8 3 1 4 1 h34]<|cl1 call137 (next_ht s13 S.q) h36 fun _ h38=>go [.s 9 0] ?_
  by_cases c39:(S.q.headD 1)=2
  ·
   have h40:=h38.h.t10
   refine go [.v 9 0 (qeT _ _ c39)]<|sA [iV 0,iV 0,uV 0] h40 fun w41 h42=>g0 ?_
   have hp_:=acq_later (S:=S) (god2 ha) ((pin_grw (S:=S) ha).1.symm.trans om) om
   have h43:=h42.x.b.x.x.x.x.t10
   have h44:sat g _ (Wd b ({S with q:=S.q.tail}:Wst)::_):=wd_close (hp_.2.2▸wok_acq hW15 2 a) h43
   exact en (.tuple #[.agg #[iV 0,iV 0,uV 0],iV 15]) [rd 0 0 0 0 3 h42] ⟨_,[Wd b ({S with q:=S.q.tail}:Wst)],rfl,⟨by rw[hp_.1,hp_.2.1],by rw[hp_.2.2]⟩,h44.d.a.t2⟩
  refine go [.v 9 0 (qeF _ _ c39),.s 11 0] ?_
  by_cases c46:(S.q.headD 1)=3
  ·
   have h47:=h38.h.t10
   refine go [.v 11 0 (qeT _ _ c46)]<|sA [iV 0,iV 0,uV 0] h47 fun w48 h49=>g0 ?_
   have hp_:=acq_fail (S:=S) (god2 ha) ((pin_grw (S:=S) ha).1.symm.trans om) om om
   have h50:=h49.x.b.x.x.x.x.t10
   have h51:sat g _ (Wd b ({S with q:=S.q.tail}:Wst)::_):=wd_close (hp_.2.2▸wok_acq hW15 2 a) h50
   exact en (.tuple #[.agg #[iV 0,iV 0,uV 0],iV 14]) [rd 0 0 0 0 3 h49] ⟨_,[Wd b ({S with q:=S.q.tail}:Wst)],rfl,⟨by rw[hp_.1,hp_.2.1],by rw[hp_.2.2]⟩,h51.d.a.t2⟩
  refine go [.v 11 0 (qeF _ _ c46),.s 13 5]<|lwP (.pointer (some ⟨b,2,none⟩)) (law_indexArr (x:=Ot 49) (i:=Ot 46) (b:=b) (off:=0) (z:=2) kr underlying52 1 kr 2 kr kr om om 2 om _)<|sP [(2,.iface 180 (pV c25))] [Value.nilIface,.iface 177 (pV f10),.iface 180 (pV c25),.iface 183 (pV d12),pV s13,pV l14,iV S.now] h38.b.t10 fun _ h55=> ?_
  have h56:=h55.h.t10
  refine go [rd 14 0 2 0 3 h55]<|sA [iV ((pinO S.B a).1),iV ((pinO S.B a).2.1),uV ((pinO S.B a).2.2)] h56 fun w57 h58=>g0 ?_
  have hp_:=acq_ok2 (S:=S) ha om om om
  have h59:=h58.x.c.x.h.x.f.t10
  have h60:sat g _ (Wd b ({S with q:=S.q.tail,B:=pinX S.B a}:Wst)::_):=wd_close (hp_.2.2▸wok_acq hW15 2 a) h59
  exact en (.tuple #[.agg #[iV ((pinO S.B a).1),iV ((pinO S.B a).2.1),uV ((pinO S.B a).2.2)],iV 0]) [rd 0 0 0 0 3 h58] ⟨_,[Wd b ({S with q:=S.q.tail,B:=pinX S.B a}:Wst)],rfl,⟨by rw[hp_.1,hp_.2.1],by rw[hp_.2.2]⟩,h60.d.a.t2⟩
 have h62:=h34.h.t10
 refine go [.v 6 1 (qnT (pinE S.B a) 0)]<|sA [iV 0,iV 0,uV 0] h62 fun w63 h64=>g0 ?_
 have hp_:=acq_err (S:=S) (god2 ha) (pin_grw (S:=S) ha).1.symm om
 have h66:sat g _ (Wd b S::_):=wd_close hW15 h64.x.x.x.x.x.x.t10
 exact en (.tuple #[.agg #[iV 0,iV 0,uV 0],iV (pinE S.B a)]) [rd 0 0 0 0 3 h64] ⟨_,[Wd b S],rfl,⟨by rw[hp_.1,hp_.2.1],by rw[hp_.2.2]⟩,h66.d.a.t2⟩
theorem wacq_2n(b:Nat)(S:Wst)(a:Int)(ha:a<1∨65536<a)(hng: ¬godP 2 a):HQ 68 [pV b,iV 2,iV a] [Wd b S] (.tuple #[.agg #[iV (acqO S 2 a).1,iV (acqO S 2 a).2.1,uV (acqO S 2 a).2.2],iV (acqE S 2 a)]) [Wd b (acqS S 2 a)]:=by
 refine hiS func68 ntmps68 fun g w0 R h0=> ?_
 obtain⟨f10,p11,d12,s13,l14,hW15,h16⟩:=wd_open h0
 have hW15n:=hW15.nl;have hW15m:=hW15.nh;have hW15t:=hW15.tn
 refine g0<|nP 72 [iV 0,iV 0,uV 0] h16 (fun r17 _ h19=> ?_)
 have h20:=h19.a.t8
 refine g0<|cl1 call57 (wvalid_cl b l14 Value.nilIface (.iface 177 (pV f10)) (.iface 180 (pV p11)) (.iface 183 (pV d12)) (pV s13) (iV S.now)) h20 fun _ h22=>g0 ?_
 by_cases c23:1≤a
 ·
  refine cl0 call135 (god_2n a om) h22 fun _ h25=> ?_
  have h26:=h25.a.t8
  refine g0<|sA [iV 0,iV 0,uV 0] h26 fun w27 h28=>g0 ?_
  have hp_:=acq_arg (S:=S) (k:=2) (a:=a) hng
  have h30:sat g _ (Wd b S::_):=wd_close hW15 h28.f.f.f.f.f.f.t8
  exact en (.tuple #[.agg #[iV 0,iV 0,uV 0],iV 2]) [rd 0 0 0 0 3 h28] ⟨_,[Wd b S],rfl,⟨by rw[hp_.1,hp_.2.1],by rw[hp_.2.2]⟩,h30.B.t2⟩
 refine cl0 call135 (god_2n a om) h22 fun _ h33=> ?_
 have h34:=h33.a.t8
 refine g0<|sA [iV 0,iV 0,uV 0] h34 fun w35 h36=>g0 ?_
 have hp_:=acq_arg (S:=S) (k:=2) (a:=a) hng
 have h38:sat g _ (Wd b S::_):=wd_close hW15 h36.f.f.f.f.f.f.t8
 exact en (.tuple #[.agg #[iV 0,iV 0,uV 0],iV 2]) [rd 0 0 0 0 3 h36] ⟨_,[Wd b S],rfl,⟨by rw[hp_.1,hp_.2.1],by rw[hp_.2.2]⟩,h38.B.t2⟩
theorem wacq_3(b:Nat)(S:Wst)(a:Int)(ha:1≤a∧a≤1048576):HQ 68 [pV b,iV 3,iV a] [Wd b S] (.tuple #[.agg #[iV (acqO S 3 a).1,iV (acqO S 3 a).2.1,uV (acqO S 3 a).2.2],iV (acqE S 3 a)]) [Wd b (acqS S 3 a)]:=by
 refine hiS func68 ntmps68 fun g w0 R h0=> ?_
 obtain⟨f10,p11,d12,s13,l14,hW15,h16⟩:=wd_open h0
 have hW15n:=hW15.nl;have hW15m:=hW15.nh;have hW15t:=hW15.tn
 refine g0<|nP 72 [iV 0,iV 0,uV 0] h16 (fun r17 _ h19=> ?_)
 have h20:=h19.a.t8
 refine g0<|cl1 call57 (wvalid_cl b l14 Value.nilIface (.iface 177 (pV f10)) (.iface 180 (pV p11)) (.iface 183 (pV d12)) (pV s13) (iV S.now)) h20 fun _ h22=>g0<|cl0 call135 (god_3y a om) h22 fun _ h24=> ?_
 have h26:=h24.f.f.f.f.f.e.t8
 refine g0<|cP call136 (grown_3 b f10 p11 d12 s13 l14 S hW15 a om) h26 ?_
 rintro v K _ (⟨c25,rfl,rfl⟩) h28
 have h29:=ap7 h28
 refine g0<|nP 72 [iV 0,iV 0,uV 0] h29 (fun r30 _ h32=> ?_)
 refine g0<|sA [iV ((gntO S.D a S.now).1),iV ((gntO S.D a S.now).2.1),uV ((gntO S.D a S.now).2.2)] h32 fun _ h34=>go [.s 6 1] ?_
 by_cases c35:(gntE S.D a S.now)=0
 ·
  have h36:=h34.e.t10
  refine go [.v 6 1 (qnF (gntE S.D a S.now) 0),rd 8 3 1 4 1 h34]<|cl1 call137 (next_ht s13 S.q) h36 fun _ h38=>go [.s 9 0] ?_
  by_cases c39:(S.q.headD 1)=2
  ·
   have h40:=h38.h.t10
   refine go [.v 9 0 (qeT _ _ c39)]<|sA [iV 0,iV 0,uV 0] h40 fun w41 h42=>g0 ?_
   have hp_:=acq_later (S:=S) (god3 ha) ((gnt_grw (S:=S) ha).1.symm.trans om) om
   have h43:=h42.x.b.x.x.x.x.t10
   have h44:sat g _ (Wd b ({S with q:=S.q.tail}:Wst)::_):=wd_close (hp_.2.2▸wok_acq hW15 3 a) h43
   exact en (.tuple #[.agg #[iV 0,iV 0,uV 0],iV 15]) [rd 0 0 0 0 3 h42] ⟨_,[Wd b ({S with q:=S.q.tail}:Wst)],rfl,⟨by rw[hp_.1,hp_.2.1],by rw[hp_.2.2]⟩,h44.d.a.t2⟩
  refine go [.v 9 0 (qeF _ _ c39),.s 11 0] ?_
  by_cases c46:(S.q.headD 1)=3
  ·
   have h47:=h38.h.t10
   refine go [.v 11 0 (qeT _ _ c46)]<|sA [iV 0,iV 0,uV 0] h47 fun w48 h49=>g0 ?_
   have hp_:=acq_fail (S:=S) (god3 ha) ((gnt_grw (S:=S) ha).1.symm.trans om) om om
   have h50:=h49.x.b.x.x.x.x.t10
   have h51:sat g _ (Wd b ({S with q:=S.q.tail}:Wst)::_):=wd_close (hp_.2.2▸wok_acq hW15 3 a) h50
   exact en (.tuple #[.agg #[iV 0,iV 0,uV 0],iV 14]) [rd 0 0 0 0 3 h49] ⟨_,[Wd b ({S with q:=S.q.tail}:Wst)],rfl,⟨by rw[hp_.1,hp_.2.1],by rw[hp_.2.2]⟩,h51.d.a.t2⟩
  refine go [.v 11 0 (qeF _ _ c46),.s 13 5]<|lwP (.pointer (some ⟨b,3,none⟩)) (law_indexArr (x:=Ot 49) (i:=Ot 46) (b:=b) (off:=0) (z:=3) kr underlying52 1 kr 3 kr kr om om 3 om _)<|sP [(3,.iface 183 (pV c25))] [Value.nilIface,.iface 177 (pV f10),.iface 180 (pV p11),.iface 183 (pV c25),pV s13,pV l14,iV S.now] h38.b.t10 fun _ h55=> ?_
  have h56:=h55.h.t10
  refine go [rd 14 0 2 0 3 h55]<|sA [iV ((gntO S.D a S.now).1),iV ((gntO S.D a S.now).2.1),uV ((gntO S.D a S.now).2.2)] h56 fun w57 h58=>g0 ?_
  have hp_:=acq_ok3 (S:=S) ha om om om
  have h59:=h58.x.c.h.x.x.f.t10
  have h60:sat g _ (Wd b ({S with q:=S.q.tail,D:=gntX S.D a S.now}:Wst)::_):=wd_close (hp_.2.2▸wok_acq hW15 3 a) h59
  exact en (.tuple #[.agg #[iV ((gntO S.D a S.now).1),iV ((gntO S.D a S.now).2.1),uV ((gntO S.D a S.now).2.2)],iV 0]) [rd 0 0 0 0 3 h58] ⟨_,[Wd b ({S with q:=S.q.tail,D:=gntX S.D a S.now}:Wst)],rfl,⟨by rw[hp_.1,hp_.2.1],by rw[hp_.2.2]⟩,h60.d.a.t2⟩
 have h62:=h34.h.t10
 refine go [.v 6 1 (qnT (gntE S.D a S.now) 0)]<|sA [iV 0,iV 0,uV 0] h62 fun w63 h64=>g0 ?_
 have hp_:=acq_err (S:=S) (god3 ha) (gnt_grw (S:=S) ha).1.symm om
 have h66:sat g _ (Wd b S::_):=wd_close hW15 h64.x.x.x.x.x.x.t10
 exact en (.tuple #[.agg #[iV 0,iV 0,uV 0],iV (gntE S.D a S.now)]) [rd 0 0 0 0 3 h64] ⟨_,[Wd b S],rfl,⟨by rw[hp_.1,hp_.2.1],by rw[hp_.2.2]⟩,h66.d.a.t2⟩
theorem wacq_3n(b:Nat)(S:Wst)(a:Int)(ha:a<1∨1048576<a)(hng: ¬godP 3 a):HQ 68 [pV b,iV 3,iV a] [Wd b S] (.tuple #[.agg #[iV (acqO S 3 a).1,iV (acqO S 3 a).2.1,uV (acqO S 3 a).2.2],iV (acqE S 3 a)]) [Wd b (acqS S 3 a)]:=by
 refine hiS func68 ntmps68 fun g w0 R h0=> ?_
 obtain⟨f10,p11,d12,s13,l14,hW15,h16⟩:=wd_open h0
 have hW15n:=hW15.nl;have hW15m:=hW15.nh;have hW15t:=hW15.tn
 refine g0<|nP 72 [iV 0,iV 0,uV 0] h16 (fun r17 _ h19=> ?_)
 have h20:=h19.a.t8
 refine g0<|cl1 call57 (wvalid_cl b l14 Value.nilIface (.iface 177 (pV f10)) (.iface 180 (pV p11)) (.iface 183 (pV d12)) (pV s13) (iV S.now)) h20 fun _ h22=>g0 ?_
 by_cases c23:1≤a
 ·
  refine cl0 call135 (god_3n a om) h22 fun _ h25=> ?_
  have h26:=h25.a.t8
  refine g0<|sA [iV 0,iV 0,uV 0] h26 fun w27 h28=>g0 ?_
  have hp_:=acq_arg (S:=S) (k:=3) (a:=a) hng
  have h30:sat g _ (Wd b S::_):=wd_close hW15 h28.f.f.f.f.f.f.t8
  exact en (.tuple #[.agg #[iV 0,iV 0,uV 0],iV 2]) [rd 0 0 0 0 3 h28] ⟨_,[Wd b S],rfl,⟨by rw[hp_.1,hp_.2.1],by rw[hp_.2.2]⟩,h30.B.t2⟩
 refine cl0 call135 (god_3n a om) h22 fun _ h33=> ?_
 have h34:=h33.a.t8
 refine g0<|sA [iV 0,iV 0,uV 0] h34 fun w35 h36=>g0 ?_
 have hp_:=acq_arg (S:=S) (k:=3) (a:=a) hng
 have h38:sat g _ (Wd b S::_):=wd_close hW15 h36.f.f.f.f.f.f.t8
 exact en (.tuple #[.agg #[iV 0,iV 0,uV 0],iV 2]) [rd 0 0 0 0 3 h36] ⟨_,[Wd b S],rfl,⟨by rw[hp_.1,hp_.2.1],by rw[hp_.2.2]⟩,h38.B.t2⟩
theorem wacq_0(b:Nat)(S:Wst)(k a:Int)(hk:k<1∨3<k)(hng: ¬godP k a):HQ 68 [pV b,iV k,iV a] [Wd b S] (.tuple #[.agg #[iV (acqO S k a).1,iV (acqO S k a).2.1,uV (acqO S k a).2.2],iV (acqE S k a)]) [Wd b (acqS S k a)]:=by
 refine hiS func68 ntmps68 fun g w0 R h0=> ?_
 obtain⟨f10,p11,d12,s13,l14,hW15,h16⟩:=wd_open h0
 have hW15n:=hW15.nl;have hW15m:=hW15.nh;have hW15t:=hW15.tn
 refine g0<|nP 72 [iV 0,iV 0,uV 0] h16 (fun r17 _ h19=> ?_)
 have h20:=h19.a.t8
 refine g0<|cl1 call57 (wvalid_cl b l14 Value.nilIface (.iface 177 (pV f10)) (.iface 180 (pV p11)) (.iface 183 (pV d12)) (pV s13) (iV S.now)) h20 fun _ h22=>g0<|cl0 call135 (god_0 k a om) h22 fun _ h24=> ?_
 have h25:=h24.a.t8
 refine g0<|sA [iV 0,iV 0,uV 0] h25 fun w26 h27=>g0 ?_
 have hp_:=acq_arg (S:=S) (k:=k) (a:=a) hng
 have h29:sat g _ (Wd b S::_):=wd_close hW15 h27.f.f.f.f.f.f.t8
 exact en (.tuple #[.agg #[iV 0,iV 0,uV 0],iV 2]) [rd 0 0 0 0 3 h27] ⟨_,[Wd b S],rfl,⟨by rw[hp_.1,hp_.2.1],by rw[hp_.2.2]⟩,h29.B.t2⟩
theorem wacq_ht(b:Nat)(S:Wst)(k a:Int):HQ 68 [pV b,iV k,iV a] [Wd b S] (Value.tuple #[Value.agg #[Value.int .i64 (acqO S k a).1,Value.int .i64 (acqO S k a).2.1,Value.int .u32 (acqO S k a).2.2],Value.int .i64 (acqE S k a)]) [Wd b (acqS S k a)]:=by
 by_cases h1:k=1
 · subst h1
   by_cases h:0≤a∧a≤65535
   · exact wacq_1 b S a h
   · exact wacq_1n b S a om (god_no1 h)
 · by_cases h2:k=2
   · subst h2
     by_cases h:1≤a∧a≤65536
     · exact wacq_2 b S a h
     · exact wacq_2n b S a om (god_no2 h)
   · by_cases h3:k=3
     · subst h3
       by_cases h:1≤a∧a≤1048576
       · exact wacq_3 b S a h
       · exact wacq_3n b S a om (god_no3 h)
     · exact wacq_0 b S k a om (god_no om)
theorem back_1(b f p d s l:Nat)(z0:Int):HQ 195 [pV b,iV 1] [Cl b [Value.nilIface,.iface 177 (pV f),.iface 180 (pV p),.iface 183 (pV d),pV s,pV l,iV z0] 56] (.func (Fn.func 244) #[pV f] #[]) [Cl b [Value.nilIface,.iface 177 (pV f),.iface 180 (pV p),.iface 183 (pV d),pV s,pV l,iV z0] 56]:=by
 refine hiS func195 ntmps195 fun g w0 R h0=>go [.s 1 4]<|lwP (.pointer (some ⟨b,1,none⟩)) (law_indexArr (x:=Ot 11) (i:=Ot 9) (b:=b) (off:=0) (z:=1) kr underlying52 1 kr 1 kr kr om om 1 om _)<|go [rd 1 5 0 1 1 h0] ?_
 exact enR _ [] h0
theorem back_2(b f p d s l:Nat)(z0:Int):HQ 195 [pV b,iV 2] [Cl b [Value.nilIface,.iface 177 (pV f),.iface 180 (pV p),.iface 183 (pV d),pV s,pV l,iV z0] 56] (.func (Fn.func 245) #[pV p] #[]) [Cl b [Value.nilIface,.iface 177 (pV f),.iface 180 (pV p),.iface 183 (pV d),pV s,pV l,iV z0] 56]:=by
 refine hiS func195 ntmps195 fun g w0 R h0=>go [.s 1 4]<|lwP (.pointer (some ⟨b,2,none⟩)) (law_indexArr (x:=Ot 11) (i:=Ot 9) (b:=b) (off:=0) (z:=2) kr underlying52 1 kr 2 kr kr om om 2 om _)<|go [rd 1 5 0 2 1 h0] ?_
 exact enR _ [] h0
theorem back_3(b f p d s l:Nat)(z0:Int):HQ 195 [pV b,iV 3] [Cl b [Value.nilIface,.iface 177 (pV f),.iface 180 (pV p),.iface 183 (pV d),pV s,pV l,iV z0] 56] (.func (Fn.func 246) #[pV d] #[]) [Cl b [Value.nilIface,.iface 177 (pV f),.iface 180 (pV p),.iface 183 (pV d),pV s,pV l,iV z0] 56]:=by
 refine hiS func195 ntmps195 fun g w0 R h0=>go [.s 1 4]<|lwP (.pointer (some ⟨b,3,none⟩)) (law_indexArr (x:=Ot 11) (i:=Ot 9) (b:=b) (off:=0) (z:=3) kr underlying52 1 kr 3 kr kr om om 3 om _)<|go [rd 1 5 0 3 1 h0] ?_
 exact enR _ [] h0
theorem wrel_no(b:Nat)(S:Wst)(x y z wy:Int)(hz0:0≤z)(hz1:z≤4294967295)(hg: ¬(1≤x∧x≤3∧0≤y∧y≤63∧1≤z)):HQ 119 [pV b,.agg #[iV x,iV y,uV z],iV wy] [Wd b S] (.tuple #[iV (relA S (x,y,z) wy),iV (relE S (x,y,z) wy)]) [Wd b (relS S (x,y,z) wy)]:=by
 refine hiS func119 ntmps119 fun g w0 R h0=> ?_
 obtain⟨f10,p11,d12,s13,l14,hW15,h16⟩:=wd_open h0
 have hW15n:=hW15.nl;have hW15m:=hW15.nh;have hW15t:=hW15.tn
 refine g0<|nP 72 [iV x,iV y,uV z] h16 (fun r17 _ h19=> ?_)
 have h20:=h19.a.t8
 refine g0<|cl1 call57 (wvalid_cl b l14 Value.nilIface (.iface 177 (pV f10)) (.iface 180 (pV p11)) (.iface 183 (pV d12)) (pV s13) (iV S.now)) h20 fun _ h22=>go [rd 3 0 1 0 3 h22] ?_
 by_cases c23:1≤x
 ·
  by_cases c24:x≤3
  ·
   by_cases c25:0≤y
   ·
    by_cases c26:y≤63
    ·
     refine cl0 call192 (couter_no x y z om om om) h22 fun w27 h28=>g0 ?_
     have hp_:=rel_arg (S:=S) (o:=(x,y,z)) (wy:=wy) (.inl hg)
     have h30:sat g _ (Wd b S::_):=wd_close hW15 h28.f.f.f.f.f.e.t8
     exact en (.tuple #[iV 0,iV 2]) [] ⟨_,[Wd b S],rfl,⟨by rw[hp_.1,hp_.2.1],by rw[hp_.2.2]⟩,h30.B.t2⟩
    refine cl0 call192 (couter_no x y z om om om) h22 fun w32 h33=>g0 ?_
    have hp_:=rel_arg (S:=S) (o:=(x,y,z)) (wy:=wy) (.inl hg)
    have h35:sat g _ (Wd b S::_):=wd_close hW15 h33.f.f.f.f.f.e.t8
    exact en (.tuple #[iV 0,iV 2]) [] ⟨_,[Wd b S],rfl,⟨by rw[hp_.1,hp_.2.1],by rw[hp_.2.2]⟩,h35.B.t2⟩
   refine cl0 call192 (couter_no x y z om om om) h22 fun w37 h38=>g0 ?_
   have hp_:=rel_arg (S:=S) (o:=(x,y,z)) (wy:=wy) (.inl hg)
   have h40:sat g _ (Wd b S::_):=wd_close hW15 h38.f.f.f.f.f.e.t8
   exact en (.tuple #[iV 0,iV 2]) [] ⟨_,[Wd b S],rfl,⟨by rw[hp_.1,hp_.2.1],by rw[hp_.2.2]⟩,h40.B.t2⟩
  refine cl0 call192 (couter_no x y z om om om) h22 fun w42 h43=>g0 ?_
  have hp_:=rel_arg (S:=S) (o:=(x,y,z)) (wy:=wy) (.inl hg)
  have h45:sat g _ (Wd b S::_):=wd_close hW15 h43.f.f.f.f.f.e.t8
  exact en (.tuple #[iV 0,iV 2]) [] ⟨_,[Wd b S],rfl,⟨by rw[hp_.1,hp_.2.1],by rw[hp_.2.2]⟩,h45.B.t2⟩
 refine cl0 call192 (couter_no x y z om om om) h22 fun w47 h48=>g0 ?_
 have hp_:=rel_arg (S:=S) (o:=(x,y,z)) (wy:=wy) (.inl hg)
 have h50:sat g _ (Wd b S::_):=wd_close hW15 h48.f.f.f.f.f.e.t8
 exact en (.tuple #[iV 0,iV 2]) [] ⟨_,[Wd b S],rfl,⟨by rw[hp_.1,hp_.2.1],by rw[hp_.2.2]⟩,h50.B.t2⟩
theorem wrel_wy(b:Nat)(S:Wst)(x y z:Int)(hz0:0≤z)(hz1:z≤4294967295)(hg:KGood (x,y,z))(hy0:0≤y)(hy1:y≤63)(hz:1≤z)(hx:1≤x∧x≤3)(wy:Int)(hwy:wy<1∨3<wy):HQ 119 [pV b,.agg #[iV x,iV y,uV z],iV wy] [Wd b S] (.tuple #[iV (relA S (x,y,z) wy),iV (relE S (x,y,z) wy)]) [Wd b (relS S (x,y,z) wy)]:=by
 refine hiS func119 ntmps119 fun g w0 R h0=> ?_
 obtain⟨f10,p11,d12,s13,l14,hW15,h16⟩:=wd_open h0
 have hW15n:=hW15.nl;have hW15m:=hW15.nh;have hW15t:=hW15.tn
 refine g0<|nP 72 [iV x,iV y,uV z] h16 (fun r17 _ h19=> ?_)
 have h20:=h19.a.t8
 refine g0<|cl1 call57 (wvalid_cl b l14 Value.nilIface (.iface 177 (pV f10)) (.iface 180 (pV p11)) (.iface 183 (pV d12)) (pV s13) (iV S.now)) h20 fun _ h22=>go [rd 3 0 1 0 3 h22]<|cl0 call192 (couter_ok x y z om om om) h22 fun w23 h24=>go [.s 3 5] ?_
 by_cases c25:wy<1
 ·
  refine go [.v 3 5 (oT _ c25)] ?_
  have hp_:=rel_arg (S:=S) (o:=(x,y,z)) (wy:=wy) (.inr hwy)
  have h27:sat g _ (Wd b S::_):=wd_close hW15 h24.f.f.f.f.f.e.t8
  exact en (.tuple #[iV 0,iV 2]) [] ⟨_,[Wd b S],rfl,⟨by rw[hp_.1,hp_.2.1],by rw[hp_.2.2]⟩,h27.B.t2⟩
 refine go [.v 3 5 (oF _ c25),.v 3 9 (oT (wy>3))] ?_
 have hp_:=rel_arg (S:=S) (o:=(x,y,z)) (wy:=wy) (.inr hwy)
 have h30:sat g _ (Wd b S::_):=wd_close hW15 h24.f.f.f.f.f.e.t8
 exact en (.tuple #[iV 0,iV 2]) [] ⟨_,[Wd b S],rfl,⟨by rw[hp_.1,hp_.2.1],by rw[hp_.2.2]⟩,h30.B.t2⟩
theorem wrel_none(b:Nat)(S:Wst)(x y z:Int)(hz0:0≤z)(hz1:z≤4294967295)(hg:KGood (x,y,z))(hy0:0≤y)(hy1:y≤63)(hz:1≤z)(hx:1≤x∧x≤3)(hT: ¬Thr S (x,y,z))(wy:Int)(hwy:1≤wy∧wy≤3):HQ 119 [pV b,.agg #[iV x,iV y,uV z],iV wy] [Wd b S] (.tuple #[iV (relA S (x,y,z) wy),iV (relE S (x,y,z) wy)]) [Wd b (relS S (x,y,z) wy)]:=by
 refine hiS func119 ntmps119 fun g w0 R h0=> ?_
 obtain⟨f10,p11,d12,s13,l14,hW15,h16⟩:=wd_open h0
 have hW15n:=hW15.nl;have hW15m:=hW15.nh;have hW15t:=hW15.tn
 refine g0<|nP 72 [iV x,iV y,uV z] h16 (fun r17 _ h19=> ?_)
 have h20:=h19.a.t8
 refine g0<|cl1 call57 (wvalid_cl b l14 Value.nilIface (.iface 177 (pV f10)) (.iface 180 (pV p11)) (.iface 183 (pV d12)) (pV s13) (iV S.now)) h20 fun _ h22=>go [rd 3 0 1 0 3 h22]<|cl0 call192 (couter_ok x y z om om om) h22 fun _ h24=> ?_
 have h25:=h24.f.f.f.f.f.e.t8
 refine go [.v 3 5 (oF (wy<1)),.v 3 9 (oF (wy>3)),rd 5 1 1 0 3 h24]<|cl6 call193 (by have h_:=has_ht b f10 p11 d12 s13 l14 S hW15 x y z om om;rw[decide_eq_false hT] at h_;exact h_) h25 fun w26 h27=> ?_
 refine g0 ?_
 have hp_:=rel_none (S:=S) (o:=(x,y,z)) hg hwy hT
 have h28:sat g _ (Wd b S::_):=wd_close hW15 h27
 exact en (.tuple #[iV 0,iV 5]) [] ⟨_,[Wd b S],rfl,⟨by rw[hp_.1,hp_.2.1],by rw[hp_.2.2]⟩,h28.B.t2⟩
theorem wrel_full(b:Nat)(S:Wst)(x y z:Int)(hz0:0≤z)(hz1:z≤4294967295)(hg:KGood (x,y,z))(hy0:0≤y)(hy1:y≤63)(hz:1≤z)(hx:1≤x∧x≤3)(hT:Thr S (x,y,z))(wy:Int)(hwy:1≤wy∧wy≤3)(hn:10000≤S.T.length):HQ 119 [pV b,.agg #[iV x,iV y,uV z],iV wy] [Wd b S] (.tuple #[iV (relA S (x,y,z) wy),iV (relE S (x,y,z) wy)]) [Wd b (relS S (x,y,z) wy)]:=by
 refine hiS func119 ntmps119 fun g w0 R h0=> ?_
 obtain⟨f10,p11,d12,s13,l14,hW15,h16⟩:=wd_open h0
 have hW15n:=hW15.nl;have hW15m:=hW15.nh;have hW15t:=hW15.tn
 refine g0<|nP 72 [iV x,iV y,uV z] h16 (fun r17 _ h19=> ?_)
 have h20:=h19.a.t8
 refine g0<|cl1 call57 (wvalid_cl b l14 Value.nilIface (.iface 177 (pV f10)) (.iface 180 (pV p11)) (.iface 183 (pV d12)) (pV s13) (iV S.now)) h20 fun _ h22=>go [rd 3 0 1 0 3 h22]<|cl0 call192 (couter_ok x y z om om om) h22 fun _ h24=> ?_
 have h25:=h24.f.f.f.f.f.e.t8
 refine go [.v 3 5 (oF (wy<1)),.v 3 9 (oF (wy>3)),rd 5 1 1 0 3 h24]<|cl6 call193 (by have h_:=has_ht b f10 p11 d12 s13 l14 S hW15 x y z om om;rw[decide_eq_true hT] at h_;exact h_) h25 fun _ h27=> ?_
 have h28:=h27.e.t8
 refine go [rd 7 3 0 5 1 h27]<|cl1 call23 (lglen_ht l14 S.T) h28 fun w29 h30=>go [.v 7 5 (oT ((S.T.length:Int)≥10000))] ?_
 have hp_:=rel_full (S:=S) (o:=(x,y,z)) hwy hT hn
 have h32:sat g _ (Wd b S::_):=wd_close hW15 h30.e.e.e.e.e.t8
 exact en (.tuple #[iV 0,iV 4]) [] ⟨_,[Wd b S],rfl,⟨by rw[hp_.1,hp_.2.1],by rw[hp_.2.2]⟩,h32.B.t2⟩
theorem wrel_1(b:Nat)(S:Wst)(y z:Int)(hz0:0≤z)(hz1:z≤4294967295)(hg:KGood (1,y,z))(hy0:0≤y)(hy1:y≤63)(hz:1≤z)(hT:Thr S (1,y,z))(wy:Int)(hwy:1≤wy∧wy≤3)(hn:S.T.length<10000):HQ 119 [pV b,.agg #[iV 1,iV y,uV z],iV wy] [Wd b S] (.tuple #[iV (relA S (1,y,z) wy),iV (relE S (1,y,z) wy)]) [Wd b (relS S (1,y,z) wy)]:=by
 refine hiS func119 ntmps119 fun g w0 R h0=> ?_
 obtain⟨f10,p11,d12,s13,l14,hW15,h16⟩:=wd_open h0
 have hW15n:=hW15.nl;have hW15m:=hW15.nh;have hW15t:=hW15.tn
 refine g0<|nP 72 [iV 1,iV y,uV z] h16 (fun r17 _ h19=> ?_)
 have h20:=h19.a.t8
 refine g0<|cl1 call57 (wvalid_cl b l14 Value.nilIface (.iface 177 (pV f10)) (.iface 180 (pV p11)) (.iface 183 (pV d12)) (pV s13) (iV S.now)) h20 fun _ h22=>go [rd 3 0 1 0 3 h22]<|cl0 call192 (couter_ok 1 y z om om om) h22 fun _ h24=> ?_
 have h25:=h24.f.f.f.f.f.e.t8
 refine go [.v 3 5 (oF (wy<1)),.v 3 9 (oF (wy>3)),rd 5 1 1 0 3 h24]<|cl6 call193 (by have h_:=has_ht b f10 p11 d12 s13 l14 S hW15 1 y z om om;rw[decide_eq_true hT] at h_;exact h_) h25 fun _ h27=> ?_
 have h28:=h27.e.t8
 refine go [rd 7 3 0 5 1 h27]<|cl1 call23 (lglen_ht l14 S.T) h28 fun _ h30=> ?_
 have h31:=h30.e.t8
 refine go [.v 7 5 (oF ((S.T.length:Int)≥10000)),rd 9 3 1 4 1 h30]<|cl1 call137 (next_ht s13 S.q) h31 fun _ h33=>g0<|dw (fls [0,1,2,3,4,5,6,7,8,9,10,11] (Tr.an 12 Tr.nil)) h33 fun _ h35=> ?_
 have h36:=h35.a.t8
 refine go [rd 10 3 2 5 1 h35,rd 10 7 2 6 1 h35,rd 10 8 6 0 3 h35]<|cw1 call194 (lgadd_ht l14 S.T S.now 1 y z wy (S.q.headD 1) om om (rel_attP hW15 hg hwy) hW15.ta om) h36 fun w37 h38=>⟨kd [],?_⟩
 refine go [.s 11 1] ?_
 by_cases c39:(S.q.headD 1)=1
 ·
  refine go [.v 11 1 (qeT _ _ c39)]<|dw (fls [0,1,2,4] (Tr.an 3 (Tr.an 5 Tr.nil))) h38 fun _ h41=> ?_
  have h42:=h41.b.t8
  refine go [rd 12 2 6 0 1 h41,rd 12 4 6 0 3 h41]<|cw1 call195 (back_1 b f10 p11 d12 s13 l14 S.now) h42 fun _ h44=>⟨kd [rd 0 4 6 0 3 h44],?_⟩
  refine cw1 call244 (by have h_:=fclose_ht f10 64 S.F 1 y z om om;rw[show clsX S.F (1,y,z)=giv S.F (1,y,z) from cls_giv hT] at h_;exact h_) h44.c.t8 fun w46 h47=>⟨kd [],?_⟩
  refine g0 ?_
  have hp_:=rel_ok (S:=S) (o:=(1,y,z)) hwy hT hn
  have hp2_:relS S (1,y,z) wy=({S with q:=S.q.tail,T:=S.T++ [⟨S.now,(1,y,z),wy,S.q.headD 1⟩],F:=giv S.F (1,y,z)}:Wst):=hp_.2.2.trans (if_pos om)
  have h48:=h47.c.e.e.c.d.t8
  have h49:sat g _ (Wd b ({S with q:=S.q.tail,T:=S.T++ [⟨S.now,(1,y,z),wy,S.q.headD 1⟩],F:=giv S.F (1,y,z)}:Wst)::_):=wd_close (hp2_▸wok_rel hW15 (1,y,z) wy) h48
  exact en (.tuple #[iV (S.q.headD 1),iV 0]) [] ⟨_,[Wd b ({S with q:=S.q.tail,T:=S.T++ [⟨S.now,(1,y,z),wy,S.q.headD 1⟩],F:=giv S.F (1,y,z)}:Wst)],rfl,⟨by rw[hp_.1,hp_.2.1],by rw[hp2_]⟩,h49.B.t2⟩
 refine go [.v 11 1 (qeF _ _ c39)] ?_
 have hp_:=rel_ok (S:=S) (o:=(1,y,z)) hwy hT hn
 have hp2_:relS S (1,y,z) wy=({S with q:=S.q.tail,T:=S.T++ [⟨S.now,(1,y,z),wy,S.q.headD 1⟩]}:Wst):=hp_.2.2.trans (if_neg om)
 have h51:=h38.a.e.e.e.e.t8
 have h52:sat g _ (Wd b ({S with q:=S.q.tail,T:=S.T++ [⟨S.now,(1,y,z),wy,S.q.headD 1⟩]}:Wst)::_):=wd_close (hp2_▸wok_rel hW15 (1,y,z) wy) h51
 exact en (.tuple #[iV (S.q.headD 1),iV 0]) [] ⟨_,[Wd b ({S with q:=S.q.tail,T:=S.T++ [⟨S.now,(1,y,z),wy,S.q.headD 1⟩]}:Wst)],rfl,⟨by rw[hp_.1,hp_.2.1],by rw[hp2_]⟩,h52.B.t2⟩
theorem wrel_2(b:Nat)(S:Wst)(y z:Int)(hz0:0≤z)(hz1:z≤4294967295)(hg:KGood (2,y,z))(hy0:0≤y)(hy1:y≤63)(hz:1≤z)(hT:Thr S (2,y,z))(wy:Int)(hwy:1≤wy∧wy≤3)(hn:S.T.length<10000):HQ 119 [pV b,.agg #[iV 2,iV y,uV z],iV wy] [Wd b S] (.tuple #[iV (relA S (2,y,z) wy),iV (relE S (2,y,z) wy)]) [Wd b (relS S (2,y,z) wy)]:=by
 refine hiS func119 ntmps119 fun g w0 R h0=> ?_
 obtain⟨f10,p11,d12,s13,l14,hW15,h16⟩:=wd_open h0
 have hW15n:=hW15.nl;have hW15m:=hW15.nh;have hW15t:=hW15.tn
 refine g0<|nP 72 [iV 2,iV y,uV z] h16 (fun r17 _ h19=> ?_)
 have h20:=h19.a.t8
 refine g0<|cl1 call57 (wvalid_cl b l14 Value.nilIface (.iface 177 (pV f10)) (.iface 180 (pV p11)) (.iface 183 (pV d12)) (pV s13) (iV S.now)) h20 fun _ h22=>go [rd 3 0 1 0 3 h22]<|cl0 call192 (couter_ok 2 y z om om om) h22 fun _ h24=> ?_
 have h25:=h24.f.f.f.f.f.e.t8
 refine go [.v 3 5 (oF (wy<1)),.v 3 9 (oF (wy>3)),rd 5 1 1 0 3 h24]<|cl6 call193 (by have h_:=has_ht b f10 p11 d12 s13 l14 S hW15 2 y z om om;rw[decide_eq_true hT] at h_;exact h_) h25 fun _ h27=> ?_
 have h28:=h27.e.t8
 refine go [rd 7 3 0 5 1 h27]<|cl1 call23 (lglen_ht l14 S.T) h28 fun _ h30=> ?_
 have h31:=h30.e.t8
 refine go [.v 7 5 (oF ((S.T.length:Int)≥10000)),rd 9 3 1 4 1 h30]<|cl1 call137 (next_ht s13 S.q) h31 fun _ h33=>g0<|dw (fls [0,1,2,3,4,5,6,7,8,9,10,11] (Tr.an 12 Tr.nil)) h33 fun _ h35=> ?_
 have h36:=h35.a.t8
 refine go [rd 10 3 2 5 1 h35,rd 10 7 2 6 1 h35,rd 10 8 6 0 3 h35]<|cw1 call194 (lgadd_ht l14 S.T S.now 2 y z wy (S.q.headD 1) om om (rel_attP hW15 hg hwy) hW15.ta om) h36 fun w37 h38=>⟨kd [],?_⟩
 refine go [.s 11 1] ?_
 by_cases c39:(S.q.headD 1)=1
 ·
  refine go [.v 11 1 (qeT _ _ c39)]<|dw (fls [0,1,2,4] (Tr.an 3 (Tr.an 5 Tr.nil))) h38 fun _ h41=> ?_
  have h42:=h41.b.t8
  refine go [rd 12 2 6 0 1 h41,rd 12 4 6 0 3 h41]<|cw1 call195 (back_2 b f10 p11 d12 s13 l14 S.now) h42 fun _ h44=>⟨kd [rd 0 4 6 0 3 h44],?_⟩
  refine cw1 call245 (punpin_ht p11 S.B y z y.toNat (thr_at hT) (thr_nat hg)) h44.d.t8 fun w46 h47=>⟨kd [],?_⟩
  refine g0 ?_
  have hp_:=rel_ok (S:=S) (o:=(2,y,z)) hwy hT hn
  have hp2_:relS S (2,y,z) wy=({S with q:=S.q.tail,T:=S.T++ [⟨S.now,(2,y,z),wy,S.q.headD 1⟩],B:=giv S.B (2,y,z)}:Wst):=hp_.2.2.trans (if_pos om)
  have h48:=h47.c.e.b.e.d.t8
  have h49:sat g _ (Wd b ({S with q:=S.q.tail,T:=S.T++ [⟨S.now,(2,y,z),wy,S.q.headD 1⟩],B:=giv S.B (2,y,z)}:Wst)::_):=wd_close (hp2_▸wok_rel hW15 (2,y,z) wy) h48
  exact en (.tuple #[iV (S.q.headD 1),iV 0]) [] ⟨_,[Wd b ({S with q:=S.q.tail,T:=S.T++ [⟨S.now,(2,y,z),wy,S.q.headD 1⟩],B:=giv S.B (2,y,z)}:Wst)],rfl,⟨by rw[hp_.1,hp_.2.1],by rw[hp2_]⟩,h49.B.t2⟩
 refine go [.v 11 1 (qeF _ _ c39)] ?_
 have hp_:=rel_ok (S:=S) (o:=(2,y,z)) hwy hT hn
 have hp2_:relS S (2,y,z) wy=({S with q:=S.q.tail,T:=S.T++ [⟨S.now,(2,y,z),wy,S.q.headD 1⟩]}:Wst):=hp_.2.2.trans (if_neg om)
 have h51:=h38.a.e.e.e.e.t8
 have h52:sat g _ (Wd b ({S with q:=S.q.tail,T:=S.T++ [⟨S.now,(2,y,z),wy,S.q.headD 1⟩]}:Wst)::_):=wd_close (hp2_▸wok_rel hW15 (2,y,z) wy) h51
 exact en (.tuple #[iV (S.q.headD 1),iV 0]) [] ⟨_,[Wd b ({S with q:=S.q.tail,T:=S.T++ [⟨S.now,(2,y,z),wy,S.q.headD 1⟩]}:Wst)],rfl,⟨by rw[hp_.1,hp_.2.1],by rw[hp2_]⟩,h52.B.t2⟩
theorem wrel_3(b:Nat)(S:Wst)(y z:Int)(hz0:0≤z)(hz1:z≤4294967295)(hg:KGood (3,y,z))(hy0:0≤y)(hy1:y≤63)(hz:1≤z)(hT:Thr S (3,y,z))(wy:Int)(hwy:1≤wy∧wy≤3)(hn:S.T.length<10000):HQ 119 [pV b,.agg #[iV 3,iV y,uV z],iV wy] [Wd b S] (.tuple #[iV (relA S (3,y,z) wy),iV (relE S (3,y,z) wy)]) [Wd b (relS S (3,y,z) wy)]:=by
 refine hiS func119 ntmps119 fun g w0 R h0=> ?_
 obtain⟨f10,p11,d12,s13,l14,hW15,h16⟩:=wd_open h0
 have hW15n:=hW15.nl;have hW15m:=hW15.nh;have hW15t:=hW15.tn
 refine g0<|nP 72 [iV 3,iV y,uV z] h16 (fun r17 _ h19=> ?_)
 have h20:=h19.a.t8
 refine g0<|cl1 call57 (wvalid_cl b l14 Value.nilIface (.iface 177 (pV f10)) (.iface 180 (pV p11)) (.iface 183 (pV d12)) (pV s13) (iV S.now)) h20 fun _ h22=>go [rd 3 0 1 0 3 h22]<|cl0 call192 (couter_ok 3 y z om om om) h22 fun _ h24=> ?_
 have h25:=h24.f.f.f.f.f.e.t8
 refine go [.v 3 5 (oF (wy<1)),.v 3 9 (oF (wy>3)),rd 5 1 1 0 3 h24]<|cl6 call193 (by have h_:=has_ht b f10 p11 d12 s13 l14 S hW15 3 y z om om;rw[decide_eq_true hT] at h_;exact h_) h25 fun _ h27=> ?_
 have h28:=h27.e.t8
 refine go [rd 7 3 0 5 1 h27]<|cl1 call23 (lglen_ht l14 S.T) h28 fun _ h30=> ?_
 have h31:=h30.e.t8
 refine go [.v 7 5 (oF ((S.T.length:Int)≥10000)),rd 9 3 1 4 1 h30]<|cl1 call137 (next_ht s13 S.q) h31 fun _ h33=>g0<|dw (fls [0,1,2,3,4,5,6,7,8,9,10,11] (Tr.an 12 Tr.nil)) h33 fun _ h35=> ?_
 have h36:=h35.a.t8
 refine go [rd 10 3 2 5 1 h35,rd 10 7 2 6 1 h35,rd 10 8 6 0 3 h35]<|cw1 call194 (lgadd_ht l14 S.T S.now 3 y z wy (S.q.headD 1) om om (rel_attP hW15 hg hwy) hW15.ta om) h36 fun w37 h38=>⟨kd [],?_⟩
 refine go [.s 11 1] ?_
 by_cases c39:(S.q.headD 1)=1
 ·
  refine go [.v 11 1 (qeT _ _ c39)]<|dw (fls [0,1,2,4] (Tr.an 3 (Tr.an 5 Tr.nil))) h38 fun _ h41=> ?_
  have h42:=h41.b.t8
  refine go [rd 12 2 6 0 1 h41,rd 12 4 6 0 3 h41]<|cw1 call195 (back_3 b f10 p11 d12 s13 l14 S.now) h42 fun _ h44=>⟨kd [rd 0 4 6 0 3 h44],?_⟩
  refine cw1 call246 (dreturn_ht d12 S.D y z y.toNat (thr_at hT) (thr_nat hg) om) h44.e.t8 fun w46 h47=>⟨kd [],?_⟩
  refine g0 ?_
  have hp_:=rel_ok (S:=S) (o:=(3,y,z)) hwy hT hn
  have hp2_:relS S (3,y,z) wy=({S with q:=S.q.tail,T:=S.T++ [⟨S.now,(3,y,z),wy,S.q.headD 1⟩],D:=giv S.D (3,y,z)}:Wst):=hp_.2.2.trans (if_pos om)
  have h48:=h47.c.a.e.e.d.t8
  have h49:sat g _ (Wd b ({S with q:=S.q.tail,T:=S.T++ [⟨S.now,(3,y,z),wy,S.q.headD 1⟩],D:=giv S.D (3,y,z)}:Wst)::_):=wd_close (hp2_▸wok_rel hW15 (3,y,z) wy) h48
  exact en (.tuple #[iV (S.q.headD 1),iV 0]) [] ⟨_,[Wd b ({S with q:=S.q.tail,T:=S.T++ [⟨S.now,(3,y,z),wy,S.q.headD 1⟩],D:=giv S.D (3,y,z)}:Wst)],rfl,⟨by rw[hp_.1,hp_.2.1],by rw[hp2_]⟩,h49.B.t2⟩
 refine go [.v 11 1 (qeF _ _ c39)] ?_
 have hp_:=rel_ok (S:=S) (o:=(3,y,z)) hwy hT hn
 have hp2_:relS S (3,y,z) wy=({S with q:=S.q.tail,T:=S.T++ [⟨S.now,(3,y,z),wy,S.q.headD 1⟩]}:Wst):=hp_.2.2.trans (if_neg om)
 have h51:=h38.a.e.e.e.e.t8
 have h52:sat g _ (Wd b ({S with q:=S.q.tail,T:=S.T++ [⟨S.now,(3,y,z),wy,S.q.headD 1⟩]}:Wst)::_):=wd_close (hp2_▸wok_rel hW15 (3,y,z) wy) h51
 exact en (.tuple #[iV (S.q.headD 1),iV 0]) [] ⟨_,[Wd b ({S with q:=S.q.tail,T:=S.T++ [⟨S.now,(3,y,z),wy,S.q.headD 1⟩]}:Wst)],rfl,⟨by rw[hp_.1,hp_.2.1],by rw[hp2_]⟩,h52.B.t2⟩
theorem wrel_ht(b:Nat)(S:Wst)(x y z wy:Int)(hz0:0≤z)(hz1:z≤4294967295):HQ 119 [pV b,.agg #[iV x,iV y,uV z],iV wy] [Wd b S] (Value.tuple #[Value.int .i64 (relA S (x,y,z) wy),Value.int .i64 (relE S (x,y,z) wy)]) [Wd b (relS S (x,y,z) wy)]:=by
 by_cases h:KGood (x,y,z)
 · by_cases hw:1≤wy∧wy≤3
   · by_cases hT:Thr S (x,y,z)
     · by_cases hn:S.T.length<10000
       · rcases kgood_k h with h1|h1|h1
         · have h2:x=1:=h1
           subst h2
           exact wrel_1 b S y z hz0 hz1 h h.2.2.1 h.2.2.2.1 h.2.2.2.2 hT wy hw hn
         · have h2:x=2:=h1
           subst h2
           exact wrel_2 b S y z hz0 hz1 h h.2.2.1 h.2.2.2.1 h.2.2.2.2 hT wy hw hn
         · have h2:x=3:=h1
           subst h2
           exact wrel_3 b S y z hz0 hz1 h h.2.2.1 h.2.2.2.1 h.2.2.2.2 hT wy hw hn
       · exact wrel_full b S x y z hz0 hz1 h h.2.2.1 h.2.2.2.1 h.2.2.2.2 ⟨h.1,h.2.1⟩ hT wy hw om
     · exact wrel_none b S x y z hz0 hz1 h h.2.2.1 h.2.2.2.1 h.2.2.2.2 ⟨h.1,h.2.1⟩ hT wy hw
   · exact wrel_wy b S x y z hz0 hz1 h h.2.2.1 h.2.2.2.1 h.2.2.2.2 ⟨h.1,h.2.1⟩ wy om
 · exact wrel_no b S x y z wy hz0 hz1 h
section
structure Sq where
 d:Int
 k:Int
 a:Int
 o:Ky
 wy:Int
 tk:Int
 tx:List UInt8
def Sho(L:List Sq)(m:Int):Prop:=(L.length:Int)≤m∧ ∀s∈L,s.tx.length≤40
instance (L:List Sq) (m:Int):Decidable (Sho L m):=by unfold Sho;infer_instance
section
variable {S : Wst} {s : Sq}
end
theorem allK_le(k:Int){X:Xs}(h:X.length=64):(allK k X).length≤64:=by
 rw[allK_len]
 have:=inS_len 1 (As X) 0
 rw[as_len,h] at this
 exact this
theorem allS_le{S:Wst}(h:WOk S):(allS S).length≤192:=by
 have h1:=allK_le 1 h.fl
 have h2:=allK_le 2 h.bl
 have h3:=allK_le 3 h.dl
 unfold allS
 rw[List.length_append,List.length_append]
 omega
end
section
section
variable {X : Xs} {S : Wst} {s : Sq} {o o' : Ky} {k a y t : Int}
theorem fre_as{i:Nat}{g:Int}(h:fre X=some (i,g)):(As X)[i]? =some (0,g):=by
 obtain⟨v,hv⟩:=fre_some h
 exact as_get hv
theorem tab_put(S:Wst)(X:Xs){k k':Int}(hk:k=1∨k=2∨k=3)(hk':k'=1∨k'=2∨k'=3):(S.put k X).tab k'=if k'=k then X else S.tab k':=by
 rcases hk with rfl |rfl |rfl<;>rcases hk' with rfl |rfl |rfl<;>rfl
theorem put_T(S:Wst)(X:Xs)(k:Int):(S.put k X).T=S.T∧(S.put k X).now=S.now∧(S.put k X).q=S.q:=by
 unfold Wst.put
 split
 · exact⟨rfl,rfl,rfl⟩
 · split<;>exact⟨rfl,rfl,rfl⟩
theorem acq_zero(h:acqE S k a=0):godP k a∧grwE S k a=0∧fre (S.tab k)≠none:=by
 unfold acqE at h
 split at h
 · exact absurd h dc
 · rename_i h1
   split at h
   · exact absurd h ‹_›
   · rename_i h2
     have hg:=Decidable.not_not.1 h2
     refine⟨Decidable.not_not.1 h1,hg,fun hf=> ?_⟩
     unfold grwE at hg
     split at hg
     · exact absurd hg dc
     · split at hg
       · exact absurd hg dc
       · first
          |exact absurd hg dc
          |exact absurd ((if_pos hf).symm.trans hg) dc
theorem acq_S(h:acqE S k a=0):acqS S k a=({S with q:=S.q.tail}:Wst).put k (grw (S.tab k) (valO S k a)):=by
 obtain⟨h1,h2,_⟩:=acq_zero h
 unfold acqS
 rw[if_neg (by rintro(q|q);exact q h1;exact q h2),if_pos h]
theorem acq_keep(h:acqE S k a≠0):acqS S k a=S∨acqS S k a= {S with q:=S.q.tail}:=by
 unfold acqS
 split
 · exact .inl rfl
 · first
    |exact .inr rfl
    |(rw[if_neg h];exact .inr rfl)
theorem acq_T:(acqS S k a).T=S.T∧(acqS S k a).now=S.now:=by
 unfold acqS
 split
 · exact⟨rfl,rfl⟩
 · split
   · have:=put_T ({S with q:=S.q.tail}:Wst) (grw (S.tab k) (valO S k a)) k
     exact⟨this.1,this.2.1⟩
   · exact⟨rfl,rfl⟩
theorem acq_nm(h:acqE S k a=0): ∃i g,fre (S.tab k)=some (i,g)∧acqO S k a=(k,(i:Int),g)∧i<(S.tab k).length:=by
 obtain⟨_,_,h3⟩:=acq_zero h
 cases hf:fre (S.tab k) with
 |none=>exact absurd hf h3
 |some r=>
  obtain⟨i,g⟩:=r
  refine⟨i,g,rfl,?_,?_⟩
  · unfold acqO nam;rw[if_pos h,hf]
  · have:=(List.getElem?_eq_some_iff.1 (fre_as hf)).1;rwa [as_len] at this
theorem tab_len(h:WOk S)(k:Int):(S.tab k).length=64:=by
 unfold Wst.tab
 split
 · exact h.fl
 · split
   · exact h.bl
   · exact h.dl
theorem tab_ok(h:WOk S)(k:Int):Sok (As (S.tab k)):=by
 unfold Wst.tab
 split
 · exact h.fk
 · split
   · exact h.bk
   · exact h.dk
theorem acq_tab(h:acqE S k a=0){k':Int}(hk':k'=1∨k'=2∨k'=3):(acqS S k a).tab k'=if k'=k then grw (S.tab k) (valO S k a) else S.tab k':=by
 rw[acq_S h,tab_put _ _ (godP_k (acq_zero h).1) hk']
 rfl
theorem acq_thr(hW:WOk S)(h:acqE S k a=0):Thr (acqS S k a) (acqO S k a)∧(acqO S k a).1=k:=by
 obtain⟨i,g,hf,ho,hi⟩:=acq_nm h
 have h1:=godP_k (acq_zero h).1
 rw[ho]
 have hl:=tab_len hW k
 have hg:=(tab_ok hW k) _ (List.mem_of_getElem? (fre_as hf))
 refine⟨⟨⟨by show 1≤k;omega,by show k≤3;omega,by show (0:Int)≤(i:Int);omega,by show (i:Int)≤63;omega,hg.2.2.1⟩,?_⟩,rfl⟩
 show (As ((acqS S k a).tab k))[(i:Int).toNat]? =some (1,g)
 rw[acq_tab h h1,if_pos rfl,Int.toNat_natCast]
 unfold grw
 rw[hf]
 show (As ((S.tab k).set i (1,g,valO S k a)))[i]? =_
 rw[as_set,List.getElem?_set_self (by rw[as_len];exact hi)]
theorem rel_T(h:relE S o y=0):(relS S o y).T=S.T++ [⟨S.now,o,y,relA S o y⟩]∧(relS S o y).now=S.now:=by
 have e:relA S o y=S.q.headD 1:=if_pos h
 unfold relS
 rw[if_neg (by rw[h];decide),e]
 split
 · have:=put_T ({S with q:=S.q.tail,T:=S.T++ [⟨S.now,o,y,S.q.headD 1⟩]}:Wst) (giv (S.tab o.1) o) o.1
   exact⟨this.1,this.2.1⟩
 · exact⟨rfl,rfl⟩
theorem rel_tab(h:relE S o y=0){k':Int}(hk':k'=1∨k'=2∨k'=3):(relS S o y).tab k'=if relA S o y=1∧k'=o.1 then giv (S.tab o.1) o else S.tab k':=by
 have e:relA S o y=S.q.headD 1:=if_pos h
 unfold relS
 rw[if_neg (by rw[h];decide),e]
 by_cases h1:S.q.headD 1=1
 · rw[if_pos h1,tab_put _ _ (kgood_k (rel_zero h).1) hk']
   by_cases h2:k'=o.1
   · rw[if_pos h2,if_pos ⟨h1,h2⟩]
   · rw[if_neg h2,if_neg (fun q=>h2 q.2)];rfl
 · rw[if_neg h1,if_neg (fun q=>h1 q.1)];rfl
theorem tck_as(S:Wst)(t k:Int):As ((tckS S t).tab k)=As (S.tab k):=by
 unfold tckS
 split<;>rfl
theorem tck_T(S:Wst)(t:Int):(tckS S t).T=S.T:=by
 unfold tckS
 split<;>rfl
theorem mem_all(hW:WOk S)(h:o∈allS S):Thr S o:=by
 have key: ∀ {k:Int} {X:Xs},X=S.tab k→(k=1∨k=2∨k=3)→o∈allK k X→Thr S o:=by
  intro k X hX hk hm
  subst hX
  unfold allK at hm
  obtain⟨⟨j,g⟩,h1,rfl⟩:=List.mem_map.1 hm
  obtain⟨i,hi⟩:=List.getElem?_of_mem h1
  have h3:=(inS_mem hi).2
  rw[Nat.sub_zero] at h3
  have h4:=(List.getElem?_eq_some_iff.1 h3).1
  rw[as_len,tab_len hW] at h4
  have h5:=(tab_ok hW k) _ (List.mem_of_getElem? h3)
  refine⟨⟨by show 1≤k;omega,by show k≤3;omega,by show (0:Int)≤(j:Int);omega,by show (j:Int)≤63;omega,h5.2.2.1⟩,?_⟩
  show (As (S.tab k))[(j:Int).toNat]? =some (1,g)
  rw[Int.toNat_natCast]
  exact h3
 unfold allS at h
 rcases List.mem_append.1 h with h|h
 · exact key (tab1 S).symm (.inl rfl) h
 · rcases List.mem_append.1 h with h|h
   · exact key (tab2 S).symm (.inr (.inl rfl)) h
   · exact key (tab3 S).symm (.inr (.inr rfl)) h
end
end
section
section
variable {S : Wst} {o : Ky} {k a y : Int} {q : List Int}
theorem thr_gen(hW:WOk S)(h:Thr S o):0≤o.2.2∧o.2.2≤4294967295:=by
 have:=(tab_ok hW o.1) _ (List.mem_of_getElem? h.2)
 exact⟨by have h1:1≤o.2.2:=this.2.2.1;omega,this.2.2.2⟩
theorem rel_y(hW:WOk S)(hT:Thr S o)(hy:1≤y∧y≤3)(hn:S.T.length<10000):relE S o y=0∧1≤relA S o y∧relA S o y≤3∧(relS S o y).T.length=S.T.length+1:=by
 obtain⟨h1,h2,_⟩:=rel_ok (S:=S) (o:=o) (wy:=y) hy hT hn
 have h3:=headD_bd hW.qb
 refine⟨h1,by rw[h2];exact h3.1,by rw[h2];exact h3.2,?_⟩
 rw[(rel_T h1).1,List.length_append]
 rfl
end
end
section
def Zv(X:Xs):Prop:= ∀x∈X,x.1≠1→x.2.2=0
section
variable {A : List Sl2} {X : Xs} {i j q : Nat} {g z v : Int}
theorem sok_rep{n:Nat}(h:1≤g∧g≤4294967295):Sok (List.replicate n (0,g)):=fun s hs=>by
 rw[List.eq_of_mem_replicate hs]
 exact⟨by show (0:Int)≤0;decide,by show (0:Int)≤2;decide,h.1,h.2⟩
theorem sok_set(h:Sok A){y:Sl2}(hy:0≤y.1∧y.1≤2∧1≤y.2∧y.2≤4294967295):Sok (A.set i y):=fun s hs=>by
 rcases List.mem_or_eq_of_mem_set hs with h1|rfl
 · exact h s h1
 · exact hy
theorem take_at0(h:(inS 0 A 0)[0]? =some (i,g)):takeV A=((i:Int),g,0)∧takeA A=A.set i (1,g):=by
 have hp:=(List.getElem?_eq_some_iff.1 h).1
 have hd:(inS 0 A 0).getD 0 (0,0)=(i,g):=getD_some h
 have:=take_some hp
 rw[hd] at this
 exact this
theorem takeA_len(A:List Sl2):(takeA A).length=A.length:=by
 unfold takeA
 split
 · exact List.length_set
 · rfl
theorem sok_take(h:Sok A):Sok (takeA A):=by
 unfold takeA
 split
 · rename_i hp
   have:=h _ (List.mem_of_getElem? (inS_get hp))
   exact sok_set h ⟨by show (0:Int)≤1;decide,by show (1:Int)≤2;decide,this.2.2.1,this.2.2.2⟩
 · exact h
theorem free_all(hc:cnt 0 A i=0)(hi:A.length≤i):(inS 0 A 0).length=0:=by
 unfold cnt at hc
 rwa [List.take_of_length_le hi] at hc
theorem giveA_len2(A:List Sl2)(q:Nat)(z:Int):(giveA A q z).length=A.length:=by unfold giveA;split<;>exact List.length_set
theorem sok_give(h:Sok A)(hz:1≤z∧z≤4294967295):Sok (giveA A q z):=by
 unfold giveA
 split
 · exact sok_set h ⟨by show (0:Int)≤0;decide,by show (0:Int)≤2;decide,by show 1≤z+1;omega,by show z+1≤4294967295;omega⟩
 · exact sok_set h ⟨by show (0:Int)≤2;decide,by show (2:Int)≤2;decide,hz.1,hz.2⟩
theorem thr_s4(hT:A[j]? =some (1,z))(hj:j=q){x:Sl2}(hx:A[q]? =some x):x.1=1∧x.2=z:=by
 subst hj
 rw[hT] at hx
 obtain rfl:=Option.some.inj hx
 exact⟨rfl,rfl⟩
theorem thr_x(hT:(As X)[j]? =some (1,z))(hj:j=q){x:Fl}(hx:X[q]? =some x):x.1=1∧x.2.1=z:=thr_s4 hT hj (as_get hx)
theorem zv_set(h:Zv X){y:Fl}(hy:y.1≠1→y.2.2=0):Zv (X.set i y):=fun x hx h1=>by
 rcases List.mem_or_eq_of_mem_set hx with h2|rfl
 · exact h x h2 h1
 · exact hy h1
theorem zv_rep{n:Nat}:Zv (List.replicate n (0,g,0)):=fun x hx _=>by rw[List.eq_of_mem_replicate hx]
theorem zv_giv(h:Zv X)(o:Ky):Zv (giv X o):=by
 refine zv_set h fun _=> ?_
 unfold shut
 split<;>rfl
theorem zv_grw(h:Zv X)(v:Int):Zv (grw X v):=by
 unfold grw
 split
 · exact h
 · exact zv_set h fun q=>absurd rfl q
theorem used_z: ∀ {X:Xs},Zv X→used X=(X.map fun x=>x.2.2).sum
 | [],_=>rfl
 |x::X,h=>by
  have h1:=used_z (X:=X) fun y hy=>h y (List.mem_cons_of_mem _ hy)
  unfold used at h1 ⊢
  rw[List.map_cons,List.map_cons,List.sum_cons,List.sum_cons,h1]
  by_cases hx:x.1=1
  · rw[if_pos hx]
  · rw[if_neg hx,h x List.mem_cons_self hx]
theorem tkR_go{s:Sl2}(h:A[i]? =some s)(h1:s.1=1):inS 1 (A.take i) 0++ [(i,s.2)]=inS 1 (A.take (i+1)) 0:=by rw[inS_take h,if_pos h1]
theorem tkR_no{s:Sl2}(h:A[i]? =some s)(h1:s.1≠1):inS 1 (A.take i) 0=inS 1 (A.take (i+1)) 0:=by rw[inS_take h,if_neg h1,List.append_nil]
theorem tkR_all(h:A.length≤i):inS 1 (A.take i) 0=inS 1 A 0:=by rw[List.take_of_length_le h]
def allKT(k:Int)(X:Xs)(i:Nat):List Ky:=(inS 1 ((As X).take i) 0).map fun r=>(k,(r.1:Int),r.2)
theorem akT_go{k:Int}{x:Fl}(h:X[i]? =some x)(h1:x.1=1):allKT k X i++ [(k,(i:Int),x.2.1)]=allKT k X (i+1):=by
 unfold allKT
 rw[←tkR_go (as_get h) h1,List.map_append]
 rfl
theorem akT_no{k:Int}{x:Fl}(h:X[i]? =some x)(h1:x.1≠1):allKT k X i=allKT k X (i+1):=by
 unfold allKT
 rw[←tkR_no (as_get h) h1]
theorem akT_all{k:Int}(h:X.length≤i):allKT k X i=allK k X:=by
 unfold allKT allK
 rw[tkR_all (by rw[as_len];exact h)]
def ky3(r:Nat×Int):Ky:=(3,(r.1:Int),r.2)
theorem ky3_all{i:Nat}(h:(inS 1 (As X) 0).length≤i):((inS 1 (As X) 0).take i).map ky3=allK 3 X:=by
 rw[List.take_of_length_le h]
 rfl
def useP(X:Xs)(i:Nat):Int:=((X.take i).map fun x=>x.2.2).sum
theorem useP_go{x:Fl}(h:X[i]? =some x):useP X (i+1)=useP X i+x.2.2:=by
 unfold useP
 rw[List.take_add_one,h,List.map_append,List.sum_append]
 simp
theorem useP_all(hz:Zv X)(h:X.length≤i):useP X i=used X:=by
 unfold useP
 rw[List.take_of_length_le h,used_z hz]
theorem zb_at(hz:Zv X)(hb:Bnd X){x:Fl}(h:X[i]? =some x):0≤x.2.2∧x.2.2≤65536:=by
 have hm:=List.mem_of_getElem? h
 by_cases h1:x.1=1
 · exact hb x hm h1
 · rw[hz x hm h1];decide
theorem useP_bd(hz:Zv X)(hb:Bnd X): ∀i:Nat,i≤X.length→0≤useP X i∧useP X i≤65536*(i:Int)
 |0,_=>⟨Int.le_refl _,Int.le_refl _⟩
 |i+1,hi=>by
  have h1:=useP_bd hz hb i om
  have h2:=zb_at hz hb (List.getElem?_eq_getElem (show i<X.length by omega))
  rw[useP_go (List.getElem?_eq_getElem (show i<X.length by omega))]
  omega
theorem thr_iff{S:Wst}(hW:WOk S)(o:Ky):o∈allS S↔Thr S o:=by
 refine⟨mem_all hW,fun h=> ?_⟩
 obtain⟨hk,ht⟩:=h
 obtain⟨k,y,z⟩:=o
 have h2:=(thr_mem (X:=S.tab k) (k:=k) (y:=y) (z:=z) hk.2.2.1).2 ht
 unfold allS
 rcases kgood_k hk with e|e|e<;>(have e':k=_:=e;subst e')
 · exact List.mem_append_left _ h2
 · exact List.mem_append_right _ (List.mem_append_left _ h2)
 · exact List.mem_append_right _ (List.mem_append_right _ h2)
theorem zv_pin(h:Zv X)(v:Int):Zv (pinX X v):=by
 unfold pinX
 split
 · exact zv_grw h v
 · exact h
theorem at_ext{a b:At}(h:a.at_=b.at_∧a.out.1=b.out.1∧a.out.2.1=b.out.2.1∧a.out.2.2=b.out.2.2∧a.why=b.why∧a.ans=b.ans):a=b:=by
 obtain⟨t1,⟨o1,o2,o3⟩,w1,n1⟩:=a
 obtain⟨t2,⟨p1,p2,p3⟩,w2,n2⟩:=b
 obtain⟨h1,h2,h3,h4,h5,h6⟩:=h
 simp only at h1 h2 h3 h4 h5 h6
 subst h1 h2 h3 h4 h5 h6
 rfl
instance:DecidableEq At:=fun a b=>if h:a.at_=b.at_∧a.out.1=b.out.1∧a.out.2.1=b.out.2.1∧a.out.2.2=b.out.2.2∧a.why=b.why∧a.ans=b.ans then .isTrue (at_ext h) else .isFalse fun e=>h (by rw[e];exact⟨rfl,rfl,rfl,rfl,rfl,rfl⟩)
theorem fre_at0(h:(inS 0 (As X) 0)[0]? =some (i,g)):fre X=some (i,g):=h
theorem slk_set2(h:SlOk (As X)){y:Fl}(hy:0≤y.1∧y.1≤2∧1≤y.2.1∧y.2.1≤4294967295):SlOk (As (X.set i y)):=slk_set h hy
theorem bnd_set(h:Bnd X){y:Fl}(hy:y.1=1→0≤y.2.2∧y.2.2≤65536):Bnd (X.set i y):=fun x hx h1=>by
 rcases List.mem_or_eq_of_mem_set hx with hx|rfl
 · exact h x hx h1
 · exact hy h1
theorem pr_set(h:X.length=64∧SlOk (As X)∧Bnd X∧Zv X){y:Fl}(h1:0≤y.1∧y.1≤2∧1≤y.2.1∧y.2.1≤4294967295)(h2:y.1=1→0≤y.2.2∧y.2.2≤65536)(h3:y.1≠1→y.2.2=0):(X.set i y).length=64∧SlOk (As (X.set i y))∧Bnd (X.set i y)∧Zv (X.set i y):=⟨List.length_set.trans h.1,slk_set2 h.2.1 h1,bnd_set h.2.2.1 h2,zv_set h.2.2.2 h3⟩
end
end
theorem slok_set{X:Xs}{q:Nat}{y:Fl}(h:SlOk (As X))(hy:0≤y.1∧y.1≤2∧1≤y.2.1∧y.2.1≤4294967295):SlOk (As (X.set q y)):=by
 rw[as_set]
 intro s hs
 rcases List.mem_or_eq_of_mem_set hs with h1|rfl
 · exact h s h1
 · exact hy
theorem shut_lt{z:Int}(h:z<4294967295):shut z=(0,z+1,0):=if_pos h
theorem shut_ge{z:Int}(h: ¬z<4294967295):shut z=(2,z,0):=if_neg h
theorem shut_ok{z:Int}(h:1≤z∧z≤4294967295):0≤(shut z).1∧(shut z).1≤2∧1≤(shut z).2.1∧(shut z).2.1≤4294967295:=by
 by_cases hz:z<4294967295
 · rw[shut_lt hz]
   refine⟨by show (0:Int)≤0;decide,by show (0:Int)≤2;decide,?_,?_⟩
   · show 1≤z+1
     omega
   · show z+1≤4294967295
     omega
 · rw[shut_ge hz]
   exact⟨by show (0:Int)≤2;decide,by show (2:Int)≤2;decide,h.1,h.2⟩
theorem clsx_ok{X:Xs}{x y z:Int}{q:Nat}(h:errA (As X) (x,y,z)=0)(hq:y=(q:Int)):X.set q (shut z)=clsX X (x,y,z):=by
 unfold clsX
 rw[if_pos h]
 show _=X.set y.toNat (shut z)
 rw[hq,Int.toNat_natCast]
theorem clsx_no{X:Xs}{o:Ky}{e:Int}(h:errA (As X) o=e)(he:e≠0):X=clsX X o:=by
 unfold clsX
 rw[if_neg (by rw[h];exact he)]
theorem slok_cls{X:Xs}{o:Ky}(h:SlOk (As X)):SlOk (As (clsX X o)):=by
 unfold clsX
 split
 · rename_i hc
   obtain⟨_,_,_,h4⟩:=chk_zero hc
   have:=h _ (List.mem_of_getElem? h4)
   exact slok_set h (shut_ok ⟨this.2.2.1,this.2.2.2⟩)
 · exact h
theorem len_cls(X:Xs)(o:Ky):(clsX X o).length=X.length:=by
 unfold clsX
 split
 · exact List.length_set
 · rfl
theorem slok_opn{X:Xs}{v:Int}(h:SlOk (As X)):SlOk (As (opnX X v)):=by
 unfold opnX
 split
 · exact h
 · split
   · rename_i hc
     have h4:=inS_get hc
     have:=h _ (List.mem_of_getElem? h4)
     exact slok_set h ⟨by show (0:Int)≤1;decide,by show (1:Int)≤2;decide,this.2.2.1,this.2.2.2⟩
   · exact h
theorem len_opn(X:Xs)(v:Int):(opnX X v).length=X.length:=by
 unfold opnX
 split
 · rfl
 · split
   · exact List.length_set
   · rfl
theorem slok_rep{n:Nat}{g:Int}(h:1≤g∧g≤4294967295):SlOk (As (List.replicate n (0,g,0))):=by
 intro s hs
 unfold As at hs
 rw[List.map_replicate] at hs
 rw[List.eq_of_mem_replicate hs]
 exact⟨by show (0:Int)≤0;decide,by show (0:Int)≤2;decide,h.1,h.2⟩
def allT(X:Xs)(i:Nat):List Ky:=(inS 1 ((As X).take i) 0).map fun r=>(1,(r.1:Int),r.2)
theorem allT_go{X:Xs}{i:Nat}{x:Fl}(h:X[i]? =some x)(hx:x.1=1):allT X i++ [(1,(i:Int),x.2.1)]=allT X (i+1):=by
 unfold allT
 rw[inS_take (as_get h),if_pos hx,List.map_append]
 rfl
theorem allT_no{X:Xs}{i:Nat}{x:Fl}(h:X[i]? =some x)(hx:x.1≠1):allT X i=allT X (i+1):=by
 unfold allT
 rw[inS_take (as_get h),if_neg hx,List.append_nil]
theorem allT_all{X:Xs}{i:Nat}(h:X.length≤i):allT X i=allX X:=by
 unfold allT allX
 rw[List.take_of_length_le (by rw[as_len];exact h)]
theorem allX_len(X:Xs):(allX X).length=(inS 1 (As X) 0).length:=List.length_map _
theorem free_zero{X:Xs}{i:Nat}(h:X.length≤i)(hc:cnt 0 (As X) i=0):(inS 0 (As X) 0).length=0:=by
 rw[←cnt_all 0 (A:=As X) (i:=i) (by rw[as_len];exact h)]
 exact hc
section
section
variable {g w : World} {L : List Assn} {b n : Nat} {X Y : Xs}
theorem dc_close2{p:Option Addr}{c:Nat}(h1:X.length=n∧1≤n∧n≤64∧SlOk (As X))(hl:Y.length=X.length)(hk:SlOk (As Y))(h:sat g w (Cl b [.slice p n c] 286::Sl 288 4 p n c (fl eId Y)::L)):sat g w (Dc b n Y::L):=
 dc_close ⟨hl.trans h1.1,h1.2.1,h1.2.2.1,hk⟩ h
end
theorem r9new_ok(n:Nat)(gn:Int)(hn:1≤n∧n≤64)(hgn:1≤gn∧gn≤4294967295):HT prog 130 [iV (n:Int),uV gn] [] (fun v K=> ∃b:Nat,v= .tuple #[pV b,iV 0]∧K= [Dc b n (List.replicate n (0,gn,0))]):=by
 refine hiS func130 ntmps130 fun g w0 R h0=>go [.v 1 1 (oF ((n:Int)<1)),.v 1 4 (oF ((n:Int)>64)),.v 1 8 (qeF gn 0)]<|nP 286 [.slice none 0 0] h0 (fun r10 w11 h12=> ?_)
 refine g0 ?_
 have h13:sat g _ (Sl 288 4 none 0 0 (fl eId [])::_):=sl_nil 288 4 h12
 refine lpS (fun mz_ a w=> ∃i:Nat,∃p2:Option Addr,∃c2:Nat,∃lr:Fr,mz_=n-i∧(i≤n)∧a=mk 37 (([(0,iV (n:Int)),(1,uV gn),(6,pV r10),(7,iV (i:Int))]:Fr)++lr)∧sat g w [Sl 288 4 p2 i c2 (fl eId (List.replicate i (0,gn,0))),Cl r10 [.slice p2 i c2] 286,R]) (n-0) ⟨0,none,0,_,rfl,(Nat.zero_le _),(lvF [.k 0 (iV (n:Int)),.k 1 (uV gn),.k 6 (pV r10),.o 7 (oJ .i64 0 (0:Int))]),h13⟩ ?_
 rintro m15 a16 w17 ⟨i,p2,c2,lr14,rfl,hi,rfl,h18⟩
 refine ga<|go [.s 5 2] ?_
 by_cases c19:(i:Int)<(n:Int)
 ·
  refine go [.v 5 2 (oT _ c19),rd 7 4 1 0 1 h18]<|nG (fun q_=> .slice (some ⟨q_,0,none⟩) 1 1) 288 [.bool false,.bool false,uV gn,iV 0] h18 (fun r20 _ h22=>⟨kd [],?_⟩)
  have h23:=h22.a.t4
  refine actG ?_
  refine aA 33 4 (Ot 29) (Ot 32) (.agg #[.bool false,.bool false,uV 0,iV 0]) p2 i c2 1 1 (⟨r20,0,none⟩) 16 underlying284 h23 (fl eId [(0,gn,0)]) rfl (cell1 h23 rfl) (fl_one eId_ok _) (i+1) ?_
  intro p24 cap25 w26 h27
  have h28:sat g _ (Sl 288 4 p24 (i+1) cap25 (fl eId ((List.replicate i (0,gn,0))++ [(0,gn,0)]))::_):=sJ h27
  obtain⟨hn29,hn30⟩:=sl_le h28
  refine nxA ?_
  have h31:=h28.b.t4
  refine g0<|sA [.slice p24 (i+1) cap25] h31 fun w32 h33=>go [.v 6 1 (oIr ((i:Int)+1))] ?_
  refine enL ?_
  have h35:sat g _ (Sl 288 4 p24 (i+1) cap25 (fl eId (List.replicate (i+1) (0,gn,0)))::_):=sat_imp h33.a.t4 (fun _ hh_=>by rw[show (((List.replicate i (0,gn,0))++ [(0,gn,0)]):List Fl)=(List.replicate (i+1) (0,gn,0)) from List.replicate_succ'.symm] at hh_;exact hh_)
  have h37:=tk3 h35.c.b.b.t4
  change ∃n',n'<_∧_
  refine⟨(n-(i+1)),by omega,(i+1),p24,cap25,_,rfl,om,(lvF [.k 0 (iV (n:Int)),.k 1 (uV gn),.k 6 (pV r10),.o 7 (oJ .i64 ((i:Int)+1) (((i+1):Nat):Int))]),h37⟩
 refine go [.v 5 2 (oF _ c19)]<|up<|g0 ?_
 have h38:=h18.a.t3
 have hi_:i=n:=by omega
 have h39:sat g w17 [Dc r10 n (List.replicate n (0,gn,0)),R]:=by rw[hi_] at h38;exact dc_close ⟨List.length_replicate,by omega,by omega,slok_rep ⟨by omega,by omega⟩⟩ h38
 exact en (.tuple #[pV r10,iV 0]) [] ⟨_,_,rfl,⟨r10,rfl,rfl⟩,h39⟩
theorem dcouter_ok(x y z:Int)(hz0:0≤z)(hz1:z≤4294967295)(hg:1≤x∧x≤3∧0≤y∧y≤63∧1≤z):HQ 173 [.agg #[iV x,iV y,uV z]] [] (iV 0) []:=by
 refine hiS func173 ntmps173 fun g w0 R h0=>g0<|nP 72 [iV x,iV y,uV z] h0 (fun _ _ h12=> ?_)
 refine go [rd 1 1 0 0 1 h12,.v 1 2 (oF (x<1)),rd 1 5 0 0 1 h12,.v 1 6 (oF (x>3)),rd 1 10 0 1 1 h12,.v 1 11 (oF (y<0)),rd 1 15 0 1 1 h12,.v 1 16 (oF (y≥64)),rd 1 20 0 2 1 h12,.v 1 21 (qeF z 0)] ?_
 exact enR _ [] h12.a.t1
theorem dcouter_no(x y z:Int)(hz0:0≤z)(hz1:z≤4294967295)(hg: ¬(1≤x∧x≤3∧0≤y∧y≤63∧1≤z)):HQ 173 [.agg #[iV x,iV y,uV z]] [] (iV 2) []:=by
 refine hiS func173 ntmps173 fun g w0 R h0=>g0<|nP 72 [iV x,iV y,uV z] h0 (fun _ _ h12=> ?_)
 refine go [rd 1 1 0 0 1 h12,.s 1 2] ?_
 by_cases c13:x<1
 ·
  refine go [.v 1 2 (oT _ c13)] ?_
  exact enR _ [] h12.a.t1
 refine go [.v 1 2 (oF _ c13),rd 1 5 0 0 1 h12,.s 1 6] ?_
 by_cases c15:x>3
 ·
  refine go [.v 1 6 (oT _ c15)] ?_
  exact enR _ [] h12.a.t1
 refine go [.v 1 6 (oF _ c15),rd 1 10 0 1 1 h12,.s 1 11] ?_
 by_cases c17:y<0
 ·
  refine go [.v 1 11 (oT _ c17)] ?_
  exact enR _ [] h12.a.t1
 refine go [.v 1 11 (oF _ c17),rd 1 15 0 1 1 h12,.s 1 16] ?_
 by_cases c19:y≥64
 ·
  refine go [.v 1 16 (oT _ c19)] ?_
  exact enR _ [] h12.a.t1
 refine go [.v 1 16 (oF _ c19),rd 1 20 0 2 1 h12,.v 1 21 (qeT z 0)] ?_
 exact enR _ [] h12.a.t1
theorem r9chk_ht(b n:Nat)(X:Xs)(x y z:Int)(hz0:0≤z)(hz1:z≤4294967295):HQ 224 [pV b,.agg #[iV x,iV y,uV z]] [Dc b n X] (iV (errA (As X) (x,y,z))) [Dc b n X]:=by
 refine hiS func224 ntmps224 fun g w0 R h0=>g0<|nP 72 [iV x,iV y,uV z] h0 (fun r10 _ h12=> ?_)
 refine go [rd 1 0 0 0 3 h12] ?_
 by_cases c13:1≤x
 ·
  by_cases c14:x≤3;rotate_left
  ·
   refine cl0 call173 (dcouter_no x y z om om om) h12 fun _ h68=>g0 ?_
   have he_:errA (As X) (x,y,z)=2:=chk_arg (As X) om
   exact en (iV 2) [] ⟨_,_,rfl,⟨by rw[he_],rfl⟩,(tk2 (sf1 (sf2 h68.a.t3)))⟩
  by_cases c15:0≤y;rotate_left
  ·
   refine cl0 call173 (dcouter_no x y z om om om) h12 fun _ h64=>g0 ?_
   have he_:errA (As X) (x,y,z)=2:=chk_arg (As X) om
   exact en (iV 2) [] ⟨_,_,rfl,⟨by rw[he_],rfl⟩,(tk2 (sf1 (sf2 h64.a.t3)))⟩
  by_cases c16:y≤63;rotate_left
  ·
   refine cl0 call173 (dcouter_no x y z om om om) h12 fun _ h60=>g0 ?_
   have he_:errA (As X) (x,y,z)=2:=chk_arg (As X) om
   exact en (iV 2) [] ⟨_,_,rfl,⟨by rw[he_],rfl⟩,(tk2 (sf1 (sf2 h60.a.t3)))⟩
  by_cases c17:1≤z;rotate_left
  ·
   refine cl0 call173 (dcouter_no x y z om om om) h12 fun _ h56=>g0 ?_
   have he_:errA (As X) (x,y,z)=2:=chk_arg (As X) om
   exact en (iV 2) [] ⟨_,_,rfl,⟨by rw[he_],rfl⟩,(tk2 (sf1 (sf2 h56.a.t3)))⟩
  refine cl0 call173 (dcouter_ok x y z om om om) h12 fun _ h19=>go [rd 1 5 0 0 1 h19,.s 1 6] ?_
  by_cases c20:x=1;rotate_left
  ·
   refine go [.v 1 6 (qnT x 1)] ?_
   have he_:errA (As X) (x,y,z)=2:=chk_arg (As X) om
   exact en (iV 2) [] ⟨_,_,rfl,⟨by rw[he_],rfl⟩,(tk2 (sf1 (sf2 h19.a.t3)))⟩
  refine go [.v 1 6 (qnF x 1)]<|dw (fls [0,1,2,3,4,5,6,7] Tr.nil) h19 fun w21 h22=> ?_
  obtain⟨p24,c25,hD26,h27⟩:=dc_open h22.a.t3
  have hXl_:=hD26.1;have hn1_:=hD26.2.1;have hn64_:=hD26.2.2.1;have hok_:=hD26.2.2.2;have hal_:=as_len X
  refine go [rd 3 1 0 1 1 h22,rd 3 5 0 0 1 h27,.s 3 7] ?_
  by_cases c28:y≥(n:Int)
  ·
   refine go [.v 3 7 (oT _ c28)] ?_
   have he_:errA (As X) (x,y,z)=3:=chk_range (As X) (as_len X) om om om om om
   have h29:sat g _ (Dc b n X::_):=dc_close hD26 h27
   exact en (iV 3) [] ⟨_,_,rfl,⟨by rw[he_],rfl⟩,h29.B.t2⟩
  refine go [.v 3 7 (oF _ c28)]<|dw (fls [0,1,2,3,4,5,6,7,8,9,10,11,12,13,14,15,16,17,18,19,20,21,22,23] Tr.nil) h27 fun w31 h32=> ?_
  obtain⟨b33,hp34⟩:=sl_ptr0 (j:=1) h32 rfl om
  obtain⟨kk35,hk36⟩: ∃z_:Nat,y=(z_:Int):=⟨(y).toNat,by omega⟩
  refine go [rd 5 3 0 0 1 h32,rd 5 5 2 1 1 h32,.s 5 6]<|lw (.pointer (some ⟨b33,kk35*4,none⟩)) (fun _=>liP (Ot 24) (Ot 26) p24 b33 0 y n c25 underlying284 4 kk35 hp34 (kk35*4)) ?_
  have h37:=h32.a.t4
  have hl38:=fl_n eId_ok dc h37
  obtain⟨x39,hx40⟩: ∃x,X[kk35]? =some x:=⟨_,List.getElem?_eq_getElem (by rw[hl38];omega)⟩
  have hb41:=slOk_as hok_ hx40
  refine go [.s 5 8] ?_
  by_cases c42:x39.1=1
  ·
   refine go [(Iq.r 5 8 b33 (kk35*4) [.bool (decide (x39.1=1))] ⟨gvc 0 h37 rfl hp34 eId_ok 0 (.bool (decide (x39.1=1))) hx40 (kk35*4),trivial⟩).b (⟨.bool (decide (x39.1=1)),.bool true,(ov_b (decide_eq_true om))⟩),rd 5 14 1 0 1 h37,rd 5 16 2 1 1 h37,.s 5 17]<|lw (.pointer (some ⟨b33,kk35*4,none⟩)) (fun _=>liP (Ot 35) (Ot 37) p24 b33 0 y n c25 underlying284 4 kk35 hp34 (kk35*4))<|go [.r 5 19 b33 (kk35*4+2) [uV x39.2.1] ⟨gvc 0 h37 rfl hp34 eId_ok 2 (uV x39.2.1) hx40 (kk35*4+2),trivial⟩,rd 5 21 2 2 1 h37,.s 5 22] ?_
   by_cases c43:x39.2.1=z
   ·
    refine go [.v 5 22 (qnF x39.2.1 z)] ?_
    have he_:errA (As X) (x,y,z)=0:=chk_ok (As X) om om om (show y=(kk35:Int) from by omega) (as_get hx40) (by constructor<;>(show _=_;omega))
    have h45:sat g _ (Dc b n X::_):=dc_close hD26 h37.a.t4
    exact en (iV 0) [] ⟨_,_,rfl,⟨by rw[he_],rfl⟩,h45.B.t2⟩
   refine go [.v 5 22 (qnT x39.2.1 z)] ?_
   have he_:errA (As X) (x,y,z)=7:=chk_stale (As X) om om om (show y=(kk35:Int) from by omega) (as_get hx40) (by rintro⟨hs1_,hs2_⟩;first|(have hs1_:=(show _=_ from hs1_);have hs2_:=(show _=_ from hs2_);dsimp only at hs1_ hs2_;omega))
   have h48:sat g _ (Dc b n X::_):=dc_close hD26 h37.a.t4
   exact en (iV 7) [] ⟨_,_,rfl,⟨by rw[he_],rfl⟩,h48.B.t2⟩
  refine go [(Iq.r 5 8 b33 (kk35*4) [.bool (decide (x39.1=1))] ⟨gvc 0 h37 rfl hp34 eId_ok 0 (.bool (decide (x39.1=1))) hx40 (kk35*4),trivial⟩).b (⟨.bool (decide (x39.1=1)),.bool false,(ov_b (decide_eq_false om))⟩)] ?_
  have he_:errA (As X) (x,y,z)=7:=chk_stale (As X) om om om (show y=(kk35:Int) from by omega) (as_get hx40) (by rintro⟨hs1_,hs2_⟩;first|(have hs1_:=(show _=_ from hs1_);have hs2_:=(show _=_ from hs2_);dsimp only at hs1_ hs2_;omega))
  have h51:sat g _ (Dc b n X::_):=dc_close hD26 h37.a.t4
  exact en (iV 7) [] ⟨_,_,rfl,⟨by rw[he_],rfl⟩,h51.B.t2⟩
 refine cl0 call173 (dcouter_no x y z om om om) h12 fun _ h72=>g0 ?_
 have he_:errA (As X) (x,y,z)=2:=chk_arg (As X) om
 exact en (iV 2) [] ⟨_,_,rfl,⟨by rw[he_],rfl⟩,(tk2 (sf1 (sf2 h72.a.t3)))⟩
theorem r9close_ht(b n:Nat)(X:Xs)(x y z:Int)(hz0:0≤z)(hz1:z≤4294967295):HQ 177 [pV b,.agg #[iV x,iV y,uV z]] [Dc b n X] (iV (errA (As X) (x,y,z))) [Dc b n (clsX X (x,y,z))]:=by
 refine hiS func177 ntmps177 fun g w0 R h0=>g0<|nP 72 [iV x,iV y,uV z] h0 (fun r10 _ h12=> ?_)
 have hbd_:=chk_bd (As X) (x,y,z)
 have h13:=h12.a.t3
 refine go [rd 1 1 0 0 3 h12]<|cl1 call224 (r9chk_ht b n X x y z om om) h13 fun _ h15=>go [.s 2 1] ?_
 by_cases c16:(errA (As X) (x,y,z))=0
 ·
  refine go [.v 2 1 (qnF (errA (As X) (x,y,z)) 0),rd 4 1 1 2 1 h15,.s 4 2] ?_
  by_cases c17:z=4294967295
  ·
   refine go [.v 4 2 (qeT _ _ c17),rd 4 4 1 2 1 h15]<|nP 288 [.bool false,.bool false,uV 0,iV 0] h15 (fun r18 _ h20=> ?_)
   refine sA [.bool false,.bool true,uV z,iV 0] h20 fun _ h22=>go [rd 5 1 0 1 1 h22]<|dw (fls [0,1,2,3,4,5,6,7] (Tr.an 8 Tr.nil)) h22 fun _ h24=> ?_
   obtain⟨p26,c27,hD28,h29⟩:=dc_open h24.a.t4
   have hXl_:=hD28.1;have hn1_:=hD28.2.1;have hn64_:=hD28.2.2.1;have hok_:=hD28.2.2.2;have hal_:=as_len X
   have hz30:=chk_zero (o:=(x,y,z)) (show errA _ _=0 from by omega)
   have hz31:x=1∧0≤y∧y.toNat<(As X).length∧1≤z:=⟨hz30.2.1,hz30.1.2.2.1,hz30.2.2.1,hz30.1.2.2.2.2⟩
   obtain⟨b32,hp33⟩:=sl_ptr0 (j:=1) h29 rfl om
   obtain⟨kk34,hk35⟩: ∃z_:Nat,y=(z_:Int):=⟨(y).toNat,by omega⟩
   refine go [rd 7 3 0 0 1 h29,rd 7 5 3 1 1 h29,rd 7 6 2 0 4 h29,.s 7 7]<|lw (.pointer (some ⟨b32,kk34*4,none⟩)) (fun _=>liP (Ot 29) (Ot 31) p26 b32 0 y n c27 underlying284 4 kk34 hp33 (kk34*4)) ?_
   have h36:=h29.a.t5
   refine actG ?_
   have hl39:=fl_n eId_ok dc h36
   obtain⟨x40,hx41⟩: ∃x,X[kk34]? =some x:=⟨_,List.getElem?_eq_getElem (by rw[hl39];omega)⟩
   have hb42:=slOk_as hok_ hx41
   refine an_storeSl (b:=b32) [(kk34*4,.bool false),(kk34*4+1,.bool true),(kk34*4+2,uV z),(kk34*4+3,iV 0)] (cs':=(fl eId (X.set kk34 (shut z)))) kr kr hp33 (allq ⟨⟨by omega,rfl⟩,⟨by omega,rfl⟩,⟨by omega,rfl⟩,⟨by omega,rfl⟩,trivial⟩) om (fl_upd eId_ok (i:=kk34) (x:=x40) (y:=(shut z)) hx41 [(0,.bool false),(1,.bool true),(2,uV z),(3,iV 0)] rfl (by rw[shut_ge om];rfl) rfl) h36 ?_
   intro w37 h38
   refine⟨kd [],nxN ?_⟩
   refine g0 ?_
   have h45:sat g _ (Sl 288 4 p26 n c27 (fl eId (clsX X (x,y,z)))::_):=sat_imp (tk5 (sf4 (sf3 (sf4 (sf4 (sf4 h38.a.t5)))))) (fun _ hh_=>by rw[show ((X.set kk34 (shut z)):List Fl)=(clsX X (x,y,z)) from clsx_ok (show errA _ _=0 from by omega) om] at hh_;exact hh_)
   have h47:sat g w37 [Dc b n (clsX X (x,y,z)),Cl r18 [.bool false,.bool true,uV z,iV 0] 288,Cl r10 [iV x,iV y,uV z] 72,R]:=dc_close2 hD28 (len_cls X _) (slok_cls hD28.2.2.2) h45.a.t5
   exact en (iV 0) [] ⟨_,_,rfl,⟨by rw[show errA (As X) (x,y,z)=0 from by omega],rfl⟩,h47.c.a.t2⟩
  refine go [.v 4 2 (qeF _ _ c17),rd 4 4 1 2 1 h15]<|nP 288 [.bool false,.bool false,uV 0,iV 0] h15 (fun r49 _ h51=> ?_)
  refine sA [.bool false,.bool false,uV z,iV 0] h51 fun _ h53=>go [rd 5 1 0 1 1 h53,rd 6 1 2 2 1 h53,.v 6 2 (oUr (z+1))]<|sP [(2,uV (z+1))] [.bool false,.bool false,uV (z+1),iV 0] h53 fun _ h55=>g0<|dw (fls [0,1,2,3,4,5,6,7] (Tr.an 8 Tr.nil)) h55 fun _ h57=> ?_
  obtain⟨p59,c60,hD61,h62⟩:=dc_open h57.a.t4
  have hXl_:=hD61.1;have hn1_:=hD61.2.1;have hn64_:=hD61.2.2.1;have hok_:=hD61.2.2.2;have hal_:=as_len X
  have hz63:=chk_zero (o:=(x,y,z)) (show errA _ _=0 from by omega)
  have hz64:x=1∧0≤y∧y.toNat<(As X).length∧1≤z:=⟨hz63.2.1,hz63.1.2.2.1,hz63.2.2.1,hz63.1.2.2.2.2⟩
  obtain⟨b65,hp66⟩:=sl_ptr0 (j:=1) h62 rfl om
  obtain⟨kk67,hk68⟩: ∃z_:Nat,y=(z_:Int):=⟨(y).toNat,by omega⟩
  refine go [rd 7 3 0 0 1 h62,rd 7 5 3 1 1 h62,rd 7 6 2 0 4 h62,.s 7 7]<|lw (.pointer (some ⟨b65,kk67*4,none⟩)) (fun _=>liP (Ot 29) (Ot 31) p59 b65 0 y n c60 underlying284 4 kk67 hp66 (kk67*4)) ?_
  have h69:=h62.a.t5
  refine actG ?_
  have hl72:=fl_n eId_ok dc h69
  obtain⟨x73,hx74⟩: ∃x,X[kk67]? =some x:=⟨_,List.getElem?_eq_getElem (by rw[hl72];omega)⟩
  have hb75:=slOk_as hok_ hx74
  refine an_storeSl (b:=b65) [(kk67*4,.bool false),(kk67*4+1,.bool false),(kk67*4+2,uV (z+1)),(kk67*4+3,iV 0)] (cs':=(fl eId (X.set kk67 (shut z)))) kr kr hp66 (allq ⟨⟨by omega,rfl⟩,⟨by omega,rfl⟩,⟨by omega,rfl⟩,⟨by omega,rfl⟩,trivial⟩) om (fl_upd eId_ok (i:=kk67) (x:=x73) (y:=(shut z)) hx74 [(0,.bool false),(1,.bool false),(2,uV (z+1)),(3,iV 0)] rfl (by rw[shut_lt om];rfl) rfl) h69 ?_
  intro w70 h71
  refine⟨kd [],nxN ?_⟩
  refine g0 ?_
  have h78:sat g _ (Sl 288 4 p59 n c60 (fl eId (clsX X (x,y,z)))::_):=sat_imp (tk5 (sf4 (sf3 (sf4 (sf4 (sf4 h71.a.t5)))))) (fun _ hh_=>by rw[show ((X.set kk67 (shut z)):List Fl)=(clsX X (x,y,z)) from clsx_ok (show errA _ _=0 from by omega) om] at hh_;exact hh_)
  have h80:sat g w70 [Dc b n (clsX X (x,y,z)),Cl r49 [.bool false,.bool false,uV (z+1),iV 0] 288,Cl r10 [iV x,iV y,uV z] 72,R]:=dc_close2 hD61 (len_cls X _) (slok_cls hD61.2.2.2) h78.a.t5
  exact en (iV 0) [] ⟨_,_,rfl,⟨by rw[show errA (As X) (x,y,z)=0 from by omega],rfl⟩,h80.c.a.t2⟩
 refine go [.v 2 1 (qnT (errA (As X) (x,y,z)) 0)] ?_
 have hX_:X=clsX X (x,y,z):=clsx_no (e:=errA (As X) (x,y,z)) rfl om
 exact en (iV (errA (As X) (x,y,z))) [] ⟨_,[Dc b n X],rfl,⟨rfl,by rw[←hX_]⟩,h15.B.t2⟩
theorem r9open_ht(b n:Nat)(X:Xs)(v:Int):HT prog 208 [pV b,iV v] [Dc b n X] (fun r K=>r= .tuple #[.agg #[iV (opnO X v).1,iV (opnO X v).2.1,uV (opnO X v).2.2],iV (opnE X v)]∧K= [Dc b n (opnX X v)]):=by
 refine hiS func208 ntmps208 fun g w0 R h0=>g0<|nP 72 [iV 0,iV 0,uV 0] h0 (fun r10 _ h12=> ?_)
 refine go [.s 1 1] ?_
 by_cases c13:v<0
 ·
  refine go [.v 1 1 (oT _ c13)]<|sA [iV 0,iV 0,uV 0] h12 fun _ h15=>g0 ?_
  have ho_:=opn_arg (X:=X) (v:=v) om
  exact en (.tuple #[.agg #[iV 0,iV 0,uV 0],iV 2]) [rd 0 0 0 0 3 h15] ⟨_,[Dc b n X],rfl,⟨by rw[ho_.1,ho_.2.1],by rw[ho_.2.2]⟩,(tk2 (sf1 (sf2 h15.a.t3)))⟩
 refine go [.v 1 1 (oF _ c13),.s 1 4] ?_
 by_cases c18:v>65535
 ·
  refine go [.v 1 4 (oT _ c18)]<|sA [iV 0,iV 0,uV 0] h12 fun _ h20=>g0 ?_
  have ho_:=opn_arg (X:=X) (v:=v) om
  exact en (.tuple #[.agg #[iV 0,iV 0,uV 0],iV 2]) [rd 0 0 0 0 3 h20] ⟨_,[Dc b n X],rfl,⟨by rw[ho_.1,ho_.2.1],by rw[ho_.2.2]⟩,(tk2 (sf1 (sf2 h20.a.t3)))⟩
 refine go [.v 1 4 (oF _ c18)] ?_
 obtain⟨p24,c25,hD26,h27⟩:=dc_open h12.a.t3
 have hXl_:=hD26.1;have hn1_:=hD26.2.1;have hn64_:=hD26.2.2.1;have hok_:=hD26.2.2.2;have hal_:=as_len X
 refine lpS (fun mz_ a w=> ∃i:Nat,∃lr:Fr,mz_=n-i∧(i≤n)∧(cnt 0 (As X) i=0)∧a=mk 69 (([(0,pV b),(1,iV v),(4,pV r10),(6,iV (i:Int))]:Fr)++lr)∧sat g w [Cl b [.slice p24 n c25] 286,Sl 288 4 p24 n c25 (fl eId X),Cl r10 [iV 0,iV 0,uV 0] 72,R]) (n-0) ⟨0,_,rfl,(Nat.zero_le _),rfl,(lvF [.k 0 (pV b),.k 1 (iV v),.k 4 (pV r10),.o 6 (oJ .i64 0 (0:Int))]),h27⟩ ?_
 rintro m29 a30 w31 ⟨i,lr28,rfl,hi,hc_,rfl,h32⟩
 refine ga<|go [rd 4 4 0 0 1 h32,.s 4 6] ?_
 by_cases c33:(i:Int)<(n:Int)
 ·
  obtain⟨b34,hp35⟩:=sl_ptr0 (j:=1) h32 rfl om
  refine go [.v 4 6 (oT _ c33),rd 6 3 0 0 1 h32,.s 6 5]<|lwP (.pointer (some ⟨b34,i*4,none⟩)) (liP (Ot 26) (Ot 27) p24 b34 0 (i:Int) n c25 underlying284 4 i hp35 (i*4)) ?_
  have h36:=h32.a.t4
  have hl37:=fl_n eId_ok dc h36
  obtain⟨x38,hx39⟩: ∃x,X[i]? =some x:=⟨_,List.getElem?_eq_getElem (by rw[hl37];omega)⟩
  have hb40:=slOk_as hok_ hx39
  refine go [.s 6 7] ?_
  by_cases c41:x38.1=1
  ·
   refine go [(Iq.r 6 7 b34 (i*4) [.bool (decide (x38.1=1))] ⟨gvc 0 h36 rfl hp35 eId_ok 0 (.bool (decide (x38.1=1))) hx39 (i*4),trivial⟩).b (⟨.bool (decide (x38.1=1)),.bool true,(ov_b (decide_eq_true om))⟩),.v 5 1 (oIr ((i:Int)+1))] ?_
   refine enL ?_
   have h42:=h36.a.t4
   change ∃n',n'<_∧_
   refine⟨(n-(i+1)),by omega,(i+1),_,rfl,om,((cnt_no (q:=0) (as_get hx39) (by show ¬x38.1=0;omega)).trans hc_),(lvF [.k 0 (pV b),.k 1 (iV v),.k 4 (pV r10),.o 6 (oJ .i64 ((i:Int)+1) (((i+1):Nat):Int))]),h42⟩
  refine go [(Iq.r 6 7 b34 (i*4) [.bool (decide (x38.1=1))] ⟨gvc 0 h36 rfl hp35 eId_ok 0 (.bool (decide (x38.1=1))) hx39 (i*4),trivial⟩).b (⟨.bool (decide (x38.1=1)),.bool false,(ov_b (decide_eq_false om))⟩),rd 6 13 1 0 1 h36,.s 6 15]<|lwP (.pointer (some ⟨b34,i*4,none⟩)) (liP (Ot 36) (Ot 37) p24 b34 0 (i:Int) n c25 underlying284 4 i hp35 (i*4))<|go [.s 6 17] ?_
  by_cases c43:x38.1=2
  ·
   refine go [(Iq.r 6 17 b34 (i*4+1) [.bool (decide (x38.1=2))] ⟨gvc 0 h36 rfl hp35 eId_ok 1 (.bool (decide (x38.1=2))) hx39 (i*4+1),trivial⟩).b (⟨.bool (decide (x38.1=2)),.bool true,(ov_b (decide_eq_true om))⟩),.v 5 1 (oIr ((i:Int)+1))] ?_
   refine enL ?_
   have h44:=h36.a.t4
   change ∃n',n'<_∧_
   refine⟨(n-(i+1)),by omega,(i+1),_,rfl,om,((cnt_no (q:=0) (as_get hx39) (by show ¬x38.1=0;omega)).trans hc_),(lvF [.k 0 (pV b),.k 1 (iV v),.k 4 (pV r10),.o 6 (oJ .i64 ((i:Int)+1) (((i+1):Nat):Int))]),h44⟩
  refine go [(Iq.r 6 17 b34 (i*4+1) [.bool (decide (x38.1=2))] ⟨gvc 0 h36 rfl hp35 eId_ok 1 (.bool (decide (x38.1=2))) hx39 (i*4+1),trivial⟩).b (⟨.bool (decide (x38.1=2)),.bool false,(ov_b (decide_eq_false om))⟩),rd 7 3 1 0 1 h36,.s 7 5]<|lwP (.pointer (some ⟨b34,i*4,none⟩)) (liP (Ot 46) (Ot 47) p24 b34 0 (i:Int) n c25 underlying284 4 i hp35 (i*4))<|g0 ?_
  refine actG ?_
  refine an_storeSl (b:=b34) [(i*4,.bool true)] (cs':=(fl eId (X.set i (1,x38.2.1,x38.2.2)))) kr kr hp35 (allq ⟨⟨by omega,rfl⟩,trivial⟩) om (fl_upd eId_ok (i:=i) (x:=x38) (y:=(1,x38.2.1,x38.2.2)) hx39 [(0,.bool true)] rfl (by simp[setL,eId,show ¬x38.1=2 from by omega]) rfl) h36 ?_
  intro _ h46
  refine nxB<|go [rd 8 3 1 0 1 h46,.s 8 6]<|lwP (.pointer (some ⟨b34,i*4,none⟩)) (liP (Ot 53) (Ot 54) p24 b34 0 (i:Int) n c25 underlying284 4 i hp35 (i*4))<|g0 ?_
  refine actG ?_
  have hl49:=fl_n eId_ok dc h46
  refine an_storeSl (b:=b34) [(i*4+3,iV v)] (cs':=(fl eId ((X.set i (1,x38.2.1,x38.2.2)).set i (1,x38.2.1,v)))) kr kr hp35 (allq ⟨⟨by omega,rfl⟩,trivial⟩) om (fl_upd eId_ok (i:=i) (x:=(1,x38.2.1,x38.2.2)) (y:=(1,x38.2.1,v)) (set_at hx39) [(3,iV v)] rfl rfl rfl) h46 ?_
  intro _ h48
  refine nxB<|go [rd 9 4 1 0 1 h48,.s 9 6]<|lwP (.pointer (some ⟨b34,i*4,none⟩)) (liP (Ot 62) (Ot 63) p24 b34 0 (i:Int) n c25 underlying284 4 i hp35 (i*4)) ?_
  have hl50:=fl_n eId_ok dc h48
  have h51:=h48.b.t4
  refine go [.r 9 8 b34 (i*4+2) [uV x38.2.1] ⟨gvc 0 h48 rfl hp35 eId_ok 2 (uV x38.2.1) (set_at (set_at hx39)) (i*4+2),trivial⟩]<|sA [iV 1,iV (i:Int),uV x38.2.1] h51 fun w52 h53=>g0<|up<|g0 ?_
  have ho_:=opn_ok (X:=X) (v:=v) ⟨by omega,by omega⟩ (opn_first hx39 om hc_)
  have h56:sat g _ (Sl 288 4 p24 n c25 (fl eId (opnX X v))::_):=sat_imp (tk4 (sf3 (sf2 (sf3 (sf3 h53.a.b.t4))))) (fun _ hh_=>by rw[show (((X.set i (1,x38.2.1,x38.2.2)).set i (1,x38.2.1,v)):List Fl)=(opnX X v) from (by rw[List.set_set];exact ho_.2.2.symm)] at hh_;exact hh_)
  have h58:sat g w52 [Dc b n (opnX X v),Cl r10 [iV 1,iV (i:Int),uV x38.2.1] 72,R]:=dc_close2 hD26 (len_opn X v) (slok_opn hD26.2.2.2) h56.a.t4
  exact en (.tuple #[.agg #[iV 1,iV (i:Int),uV x38.2.1],iV 0]) [rd 0 0 0 0 3 h53] ⟨_,_,rfl,⟨by rw[ho_.1,ho_.2.1],rfl⟩,h58.B.t2⟩
 refine go [.v 4 6 (oF _ c33)]<|up ?_
 have h60:=h32.b.t4
 refine g0<|sA [iV 0,iV 0,uV 0] h60 fun w61 h62=>g0 ?_
 have ho_:=opn_full (X:=X) (v:=v) ⟨by omega,by omega⟩ (free_zero (i:=i) om hc_)
 have h64:sat g _ (Dc b n X::_):=dc_close hD26 h62.b.b.t4
 exact en (.tuple #[.agg #[iV 0,iV 0,uV 0],iV 4]) [rd 0 0 0 0 3 h62] ⟨_,[Dc b n X],rfl,⟨by rw[ho_.1,ho_.2.1],by rw[ho_.2.2]⟩,h64.B.t2⟩
theorem r9all_ht(b n:Nat)(X:Xs):HT prog 268 [pV b] [Dc b n X] (fun v K=> ∃(p:Option Addr) (c:Nat),v= .slice p ((inS 1 (As X) 0).length) c∧K= [Dc b n X,Sl 72 3 p ((inS 1 (As X) 0).length) c (fl eO (allX X))]):=by
 refine hiS func268 ntmps268 fun g w0 R h0=>g0 ?_
 obtain⟨p10,c11,hD12,h13⟩:=dc_open h0
 have hXl_:=hD12.1;have hn1_:=hD12.2.1;have hn64_:=hD12.2.2.1;have hok_:=hD12.2.2.2;have hal_:=as_len X
 have h14:sat g _ (Sl 72 3 none 0 0 (fl eO [])::_):=sl_nil 72 3 h13
 refine lpS (fun mz_ a w=> ∃i:Nat,∃k:Nat,∃p2:Option Addr,∃c2:Nat,∃lr:Fr,mz_=n-i∧(i≤n)∧(k≤i)∧a=mk 36 (([(0,pV b),(3,.slice p2 k c2),(4,iV (i:Int))]:Fr)++lr)∧sat g w [Sl 72 3 p2 k c2 (fl eO (allT X i)),Cl b [.slice p10 n c11] 286,Sl 288 4 p10 n c11 (fl eId X),R]) (n-0) ⟨0,0,none,0,_,rfl,(Nat.zero_le _),(Nat.le_refl _),(lvF [.k 0 (pV b),.k 3 (.slice none 0 0),.o 4 (oJ .i64 0 (0:Int))]),h14⟩ ?_
 rintro m16 a17 w18 ⟨i,k,p2,c2,lr15,rfl,hi,hk,rfl,h19⟩
 refine ga<|go [rd 3 4 1 0 1 h19,.s 3 6] ?_
 by_cases c20:(i:Int)<(n:Int)
 ·
  obtain⟨b21,hp22⟩:=sl_ptr0 (j:=2) h19 rfl om
  refine go [.v 3 6 (oT _ c20),rd 5 3 1 0 1 h19,.s 5 5]<|lwP (.pointer (some ⟨b21,i*4,none⟩)) (liP (Ot 17) (Ot 18) p10 b21 0 (i:Int) n c11 underlying284 4 i hp22 (i*4)) ?_
  have h23:=h19.b.t4
  have hl24:=fl_n eId_ok dc h23
  obtain⟨x25,hx26⟩: ∃x,X[i]? =some x:=⟨_,List.getElem?_eq_getElem (by rw[hl24];omega)⟩
  have hb27:=slOk_as hok_ hx26
  refine go [.s 5 7] ?_
  by_cases c28:x25.1=1
  ·
   refine go [(Iq.r 5 7 b21 (i*4) [.bool (decide (x25.1=1))] ⟨gvc 0 h23 rfl hp22 eId_ok 0 (.bool (decide (x25.1=1))) hx26 (i*4),trivial⟩).b (⟨.bool (decide (x25.1=1)),.bool true,(ov_b (decide_eq_true om))⟩),rd 6 5 2 0 1 h23,.s 6 7]<|lwP (.pointer (some ⟨b21,i*4,none⟩)) (liP (Ot 27) (Ot 28) p10 b21 0 (i:Int) n c11 underlying284 4 i hp22 (i*4))<|go [.r 6 9 b21 (i*4+2) [uV x25.2.1] ⟨gvc 0 h23 rfl hp22 eId_ok 2 (uV x25.2.1) hx26 (i*4+2),trivial⟩]<|nG (fun q_=> .slice (some ⟨q_,0,none⟩) 1 1) 72 [iV 1,iV (i:Int),uV x25.2.1] h23 (fun r29 _ h31=>⟨kd [],?_⟩)
   have h32:=h31.b.t5
   refine actG ?_
   refine aA 34 3 (Ot 22) (Ot 33) (.agg #[iV 0,iV 0,uV 0]) p2 k c2 1 1 (⟨r29,0,none⟩) 24 underlying314 h32 (fl eO [(1,(i:Int),x25.2.1)]) rfl (cell1 h32 rfl) (fl_one eO_ok _) (k+1) ?_
   intro p33 cap34 w35 h36
   have h37:sat g _ (Sl 72 3 p33 (k+1) cap34 (fl eO ((allT X i)++ [(1,(i:Int),x25.2.1)]))::_):=sJ h36
   obtain⟨hn38,hn39⟩:=sl_le h37
   refine nxA<|go [.v 4 1 (oIr ((i:Int)+1))] ?_
   refine enL ?_
   have h40:sat g _ (Sl 72 3 p33 (k+1) cap34 (fl eO (allT X (i+1)))::_):=sat_imp h37 (fun _ hh_=>by rw[show (((allT X i)++ [(1,(i:Int),x25.2.1)]):List Ky)=(allT X (i+1)) from allT_go hx26 om] at hh_;exact hh_)
   have h42:=tk4 h40.d.c.d.c.t5
   change ∃n',n'<_∧_
   refine⟨(n-(i+1)),by omega,(i+1),k+1,p33,cap34,_,rfl,om,om,(lvF [.k 0 (pV b),.k 3 (.slice p33 (k+1) cap34),.o 4 (oJ .i64 ((i:Int)+1) (((i+1):Nat):Int))]),h42⟩
  refine go [(Iq.r 5 7 b21 (i*4) [.bool (decide (x25.1=1))] ⟨gvc 0 h23 rfl hp22 eId_ok 0 (.bool (decide (x25.1=1))) hx26 (i*4),trivial⟩).b (⟨.bool (decide (x25.1=1)),.bool false,(ov_b (decide_eq_false om))⟩),.v 4 1 (oIr ((i:Int)+1))] ?_
  refine enL ?_
  have h44:sat g _ (Sl 72 3 p2 k c2 (fl eO (allT X (i+1)))::_):=sat_imp h23.a.t4 (fun _ hh_=>by rw[show ((allT X i):List Ky)=(allT X (i+1)) from allT_no hx26 om] at hh_;exact hh_)
  have h45:=h44.b.a.t4
  change ∃n',n'<_∧_
  refine⟨(n-(i+1)),by omega,(i+1),k,p2,c2,_,rfl,om,om,(lvF [.k 0 (pV b),.k 3 (.slice p2 k c2),.o 4 (oJ .i64 ((i:Int)+1) (((i+1):Nat):Int))]),h45⟩
 refine go [.v 3 6 (oF _ c20)]<|up<|g0 ?_
 have hT_:allT X i=allX X:=allT_all om
 have h46:sat g _ (Sl 72 3 p2 k c2 (fl eO (allX X))::_):=sat_imp h19 (fun _ hh_=>by rw[show ((allT X i):List Ky)=(allX X) from hT_] at hh_;exact hh_)
 have hl47:=fl_n eO_ok dc h46
 have hk_:k=((inS 1 (As X) 0).length):=by have h_:=allX_len X;omega
 have h48:sat g _ (Sl 72 3 p2 ((inS 1 (As X) 0).length) c2 (fl eO (allX X))::_):=sat_imp h46 (fun _ hh_=>by rw[←hk_];exact hh_)
 have h50:sat g _ (Dc b n X::_):=dc_close hD12 h48.b.b.t4
 exact en (.slice p2 k c2) [] ⟨_,_,rfl,⟨p2,c2,by rw[hk_],rfl⟩,h50⟩
theorem r9copy_ht(b n:Nat)(X:Xs):HT prog 166 [pV b] [Dc b n X] (fun v K=> ∃b2:Nat,v=pV b2∧K= [Dc b n X,Dc b2 n X]):=by
 refine hiS func166 ntmps166 fun g w0 R h0=>g0<|nG (fun q_=> .slice (some ⟨q_,0,none⟩) 0 0) 288 [] h0 (fun r10 w11 h12=>⟨kd [],?_⟩)
 obtain⟨p14,c15,hD16,h17⟩:=dc_open h12.a.t3
 have hXl_:=hD16.1;have hn1_:=hD16.2.1;have hn64_:=hD16.2.2.1;have hok_:=hD16.2.2.2;have hal_:=as_len X
 have h18:=h17.a.t4
 have hl19:=fl_n eId_ok dc h18
 have h21:sat g _ (Sl 288 4 (some ⟨r10,0,none⟩) 0 0 (fl eId [])::_):=sl_of_cl h18.b.t4 rfl om
 refine go [rd 1 4 0 0 1 h17] ?_
 refine actG ?_
 refine aG 8 4 (Ot 3) (Ot 7) (.agg #[.bool false,.bool false,uV 0,iV 0]) (some ⟨r10,0,none⟩) p14 0 0 n c15 16 underlying284 h21 1 rfl (fl eId X) (gv_sl _ _ _) (by rw[fl_len eId_ok,hl19]) (fl_one eId_ok _) n ?_
 intro p22 cap23 w24 h25
 have h26:sat g _ (Sl 288 4 p22 n cap23 (fl eId X)::_):=sI h25
 obtain⟨hn27,hn28⟩:=sl_le h26
 refine nxA<|g0<|nP 286 [.slice p22 n cap23] h26 (fun r29 w30 h31=> ?_)
 refine g0 ?_
 have h33:sat g _ (Dc b n X::_):=dc_close hD16 h31.b.c.t5
 have h35:sat g _ (Dc r29 n X::_):=dc_close hD16 h33.b.b.t4
 exact en (pV r29) [] ⟨_,_,rfl,⟨r29,rfl,rfl⟩,h35.a.t3⟩
end
def StR(b:Nat)(A:List Sl2):Assn:=fun h=> ∃x:Option Addr×Nat,(A.length=64∧Sok A)∧star [Cl b [.slice x.1 64 x.2] 281,Sl 283 2 x.1 64 x.2 (fl eSl A)] h
theorem s4_open{g w:World}{L:List Assn}{b:Nat}{A:List Sl2}(h:sat g w (StR b A::L)): ∃p c,(A.length=64∧Sok A)∧sat g w (Cl b [.slice p 64 c] 281::Sl 283 2 p 64 c (fl eSl A)::L):=by
 obtain⟨⟨p,c⟩,h1,h2⟩:=sat_open (X:=Option Addr×Nat) (p:=fun x=>A.length=64∧Sok A) (B:=fun x=>star [Cl b [.slice x.1 64 x.2] 281,Sl 283 2 x.1 64 x.2 (fl eSl A)]) h (fun k hk=>hk)
 exact⟨p,c,h1,sat_unstar h2⟩
theorem s4_close{g w:World}{L:List Assn}{b:Nat}{A:List Sl2}{p:Option Addr}{c:Nat}(h1:A.length=64∧Sok A)(h:sat g w (Cl b [.slice p 64 c] 281::Sl 283 2 p 64 c (fl eSl A)::L)):sat g w (StR b A::L):=sat_imp (sat_star (K:= [Cl b [.slice p 64 c] 281,Sl 283 2 p 64 c (fl eSl A)]) h) fun k hk=>⟨(p,c),h1,hk⟩
def PlR(b:Nat)(X:Xs):Assn:=fun h=> ∃x:Option Addr×Nat,(X.length=64∧SlOk (As X)∧Bnd X∧Zv X)∧star [Cl b [.bool true,.int .i64 1048576,.slice x.1 64 x.2] 291,Sl 293 4 x.1 64 x.2 (fl eId X)] h
theorem pr_open{g w:World}{L:List Assn}{b:Nat}{X:Xs}(h:sat g w (PlR b X::L)): ∃p c,(X.length=64∧SlOk (As X)∧Bnd X∧Zv X)∧sat g w (Cl b [.bool true,.int .i64 1048576,.slice p 64 c] 291::Sl 293 4 p 64 c (fl eId X)::L):=by
 obtain⟨⟨p,c⟩,h1,h2⟩:=sat_open (X:=Option Addr×Nat) (p:=fun x=>X.length=64∧SlOk (As X)∧Bnd X∧Zv X) (B:=fun x=>star [Cl b [.bool true,.int .i64 1048576,.slice x.1 64 x.2] 291,Sl 293 4 x.1 64 x.2 (fl eId X)]) h (fun k hk=>hk)
 exact⟨p,c,h1,sat_unstar h2⟩
theorem pr_close{g w:World}{L:List Assn}{b:Nat}{X:Xs}{p:Option Addr}{c:Nat}(h1:X.length=64∧SlOk (As X)∧Bnd X∧Zv X)(h:sat g w (Cl b [.bool true,.int .i64 1048576,.slice p 64 c] 291::Sl 293 4 p 64 c (fl eId X)::L)):sat g w (PlR b X::L):=sat_imp (sat_star (K:= [Cl b [.bool true,.int .i64 1048576,.slice p 64 c] 291,Sl 293 4 p 64 c (fl eId X)]) h) fun k hk=>⟨(p,c),h1,hk⟩
def DkR(b:Nat)(X:Xs):Assn:=fun h=> ∃x:Nat×Option Addr×Nat×List Int,(X.length=64∧Vals X x.2.2.2)∧star [Cl b [.bool true,.pointer (some ⟨x.1,0,none⟩),.slice x.2.1 64 x.2.2.1] 296,StR x.1 (As X),Sl 2 1 x.2.1 64 x.2.2.1 (fl eI x.2.2.2)] h
theorem dr_open{g w:World}{L:List Assn}{b:Nat}{X:Xs}(h:sat g w (DkR b X::L)): ∃s p c V,(X.length=64∧Vals X V)∧sat g w (Cl b [.bool true,.pointer (some ⟨s,0,none⟩),.slice p 64 c] 296::StR s (As X)::Sl 2 1 p 64 c (fl eI V)::L):=by
 obtain⟨⟨s,p,c,V⟩,h1,h2⟩:=sat_open (X:=Nat×Option Addr×Nat×List Int) (p:=fun x=>X.length=64∧Vals X x.2.2.2) (B:=fun x=>star [Cl b [.bool true,.pointer (some ⟨x.1,0,none⟩),.slice x.2.1 64 x.2.2.1] 296,StR x.1 (As X),Sl 2 1 x.2.1 64 x.2.2.1 (fl eI x.2.2.2)]) h (fun k hk=>hk)
 exact⟨s,p,c,V,h1,sat_unstar h2⟩
theorem dr_close{g w:World}{L:List Assn}{b:Nat}{X:Xs}{s:Nat}{p:Option Addr}{c:Nat}{V:List Int}(h1:X.length=64∧Vals X V)(h:sat g w (Cl b [.bool true,.pointer (some ⟨s,0,none⟩),.slice p 64 c] 296::StR s (As X)::Sl 2 1 p 64 c (fl eI V)::L)):sat g w (DkR b X::L):=sat_imp (sat_star (K:= [Cl b [.bool true,.pointer (some ⟨s,0,none⟩),.slice p 64 c] 296,StR s (As X),Sl 2 1 p 64 c (fl eI V)]) h) fun k hk=>⟨(s,p,c,V),h1,hk⟩
def LgR(b:Nat)(T:List At):Assn:=fun h=> ∃x:Option Addr×Nat,(T.length≤10000)∧star [Cl b [.bool true,.slice x.1 T.length x.2] 173,Sl 74 6 x.1 T.length x.2 (fl eAt T)] h
theorem gr_open{g w:World}{L:List Assn}{b:Nat}{T:List At}(h:sat g w (LgR b T::L)): ∃p c,(T.length≤10000)∧sat g w (Cl b [.bool true,.slice p T.length c] 173::Sl 74 6 p T.length c (fl eAt T)::L):=by
 obtain⟨⟨p,c⟩,h1,h2⟩:=sat_open (X:=Option Addr×Nat) (p:=fun x=>T.length≤10000) (B:=fun x=>star [Cl b [.bool true,.slice x.1 T.length x.2] 173,Sl 74 6 x.1 T.length x.2 (fl eAt T)]) h (fun k hk=>hk)
 exact⟨p,c,h1,sat_unstar h2⟩
theorem gr_close{g w:World}{L:List Assn}{b:Nat}{T:List At}{p:Option Addr}{c:Nat}(h1:T.length≤10000)(h:sat g w (Cl b [.bool true,.slice p T.length c] 173::Sl 74 6 p T.length c (fl eAt T)::L)):sat g w (LgR b T::L):=sat_imp (sat_star (K:= [Cl b [.bool true,.slice p T.length c] 173,Sl 74 6 p T.length c (fl eAt T)]) h) fun k hk=>⟨(p,c),h1,hk⟩
def WdR(b:Nat)(S:Wst):Assn:=fun h=> ∃x:Nat×Nat×Nat×Nat×Nat,(WOk S∧Zv S.B)∧star [Cl b [Value.bool true,Value.pointer (some ⟨x.1,0,none⟩),Value.pointer (some ⟨x.2.1,0,none⟩),Value.pointer (some ⟨x.2.2.1,0,none⟩),Value.pointer (some ⟨x.2.2.2.1,0,none⟩),Value.pointer (some ⟨x.2.2.2.2,0,none⟩),Value.int IntKind.i64 S.now] 160,Dc x.1 64 S.F,PlR x.2.1 S.B,DkR x.2.2.1 S.D,Sr 242 x.2.2.2.1 S.q,LgR x.2.2.2.2 S.T] h
theorem rw_open{g w:World}{L:List Assn}{b:Nat}{S:Wst}(h:sat g w (WdR b S::L)): ∃f p d s l,(WOk S∧Zv S.B)∧sat g w (Cl b [Value.bool true,Value.pointer (some ⟨f,0,none⟩),Value.pointer (some ⟨p,0,none⟩),Value.pointer (some ⟨d,0,none⟩),Value.pointer (some ⟨s,0,none⟩),Value.pointer (some ⟨l,0,none⟩),Value.int IntKind.i64 S.now] 160::Dc f 64 S.F::PlR p S.B::DkR d S.D::Sr 242 s S.q::LgR l S.T::L):=by
 obtain⟨⟨f,p,d,s,l⟩,h1,h2⟩:=sat_open (X:=Nat×Nat×Nat×Nat×Nat) (p:=fun x=>WOk S∧Zv S.B) (B:=fun x=>star [Cl b [Value.bool true,Value.pointer (some ⟨x.1,0,none⟩),Value.pointer (some ⟨x.2.1,0,none⟩),Value.pointer (some ⟨x.2.2.1,0,none⟩),Value.pointer (some ⟨x.2.2.2.1,0,none⟩),Value.pointer (some ⟨x.2.2.2.2,0,none⟩),Value.int IntKind.i64 S.now] 160,Dc x.1 64 S.F,PlR x.2.1 S.B,DkR x.2.2.1 S.D,Sr 242 x.2.2.2.1 S.q,LgR x.2.2.2.2 S.T]) h (fun k hk=>hk)
 exact⟨f,p,d,s,l,h1,sat_unstar h2⟩
theorem rw_close{g w:World}{L:List Assn}{b:Nat}{S:Wst}{f:Nat}{p:Nat}{d:Nat}{s:Nat}{l:Nat}(h1:WOk S∧Zv S.B)(h:sat g w (Cl b [Value.bool true,Value.pointer (some ⟨f,0,none⟩),Value.pointer (some ⟨p,0,none⟩),Value.pointer (some ⟨d,0,none⟩),Value.pointer (some ⟨s,0,none⟩),Value.pointer (some ⟨l,0,none⟩),Value.int IntKind.i64 S.now] 160::Dc f 64 S.F::PlR p S.B::DkR d S.D::Sr 242 s S.q::LgR l S.T::L)):sat g w (WdR b S::L):=sat_imp (sat_star (K:= [Cl b [Value.bool true,Value.pointer (some ⟨f,0,none⟩),Value.pointer (some ⟨p,0,none⟩),Value.pointer (some ⟨d,0,none⟩),Value.pointer (some ⟨s,0,none⟩),Value.pointer (some ⟨l,0,none⟩),Value.int IntKind.i64 S.now] 160,Dc f 64 S.F,PlR p S.B,DkR d S.D,Sr 242 s S.q,LgR l S.T]) h) fun k hk=>⟨(f,p,d,s,l),h1,hk⟩
theorem r1chk_y(gn:Int)(h:1≤gn):HQ 129 [uV gn] [] (iV 0) []:=by
 refine hiS func129 ntmps129 fun g w0 R h0=>go [.v 1 1 (qeF gn 0)] ?_
 exact enR _ [] h0
theorem r1nx_y(z:Int)(h:1≤z∧z≤4294967294):HQ 265 [uV z] [] (.tuple #[uV (z+1),.bool true,iV 0]) []:=by
 refine hiS func265 ntmps265 fun g w0 R h0=>go [.v 1 1 (qeF z 0),.v 3 1 (qeF z 4294967295),.v 5 1 (oUr (z+1))] ?_
 exact enR _ [] h0
theorem r1nx_n(z:Int)(h:z=4294967295):HQ 265 [uV z] [] (.tuple #[uV 0,.bool false,iV 0]) []:=by
 refine hiS func265 ntmps265 fun g w0 R h0=>go [.v 1 1 (qeF z 0),.v 3 1 (qeT z 4294967295)] ?_
 exact enR _ [] h0
theorem r10v(b:Nat)(v0 v1:Value):HQ 220 [pV b] [Cl b [.bool true,v0,v1] 291] (.bool true) [Cl b [.bool true,v0,v1] 291]:=by
 refine hiS func220 ntmps220 fun g w0 R h0=>go [rd 1 6 0 0 1 h0] ?_
 exact enR _ [] h0
theorem r11v(b:Nat)(v0 v1:Value):HQ 221 [pV b] [Cl b [.bool true,v0,v1] 296] (.bool true) [Cl b [.bool true,v0,v1] 296]:=by
 refine hiS func221 ntmps221 fun g w0 R h0=>go [rd 1 6 0 0 1 h0] ?_
 exact enR _ [] h0
theorem r7v(b:Nat)(v0:Value):HQ 95 [pV b] [Cl b [.bool true,v0] 173] (.bool true) [Cl b [.bool true,v0] 173]:=by
 refine hiS func95 ntmps95 fun g w0 R h0=>go [rd 1 6 0 0 1 h0] ?_
 exact enR _ [] h0
theorem r12v(b:Nat)(v0 v1 v2 v3 v4 v5:Value):HQ 79 [pV b] [Cl b [.bool true,v0,v1,v2,v3,v4,v5] 160] (.bool true) [Cl b [.bool true,v0,v1,v2,v3,v4,v5] 160]:=by
 refine hiS func79 ntmps79 fun g w0 R h0=>go [rd 1 6 0 0 1 h0] ?_
 exact enR _ [] h0
theorem r4v(b:Nat)(p:Option Addr)(c:Nat):HQ 219 [pV b] [Cl b [.slice p 64 c] 281] (.bool true) [Cl b [.slice p 64 c] 281]:=by
 refine hiS func219 ntmps219 fun g w0 R h0=>go [rd 1 6 0 0 1 h0,.v 1 7 (oJ .i64 (64:Int) 64)] ?_
 exact enR _ [] h0
theorem r4new_ht(gn:Int)(hgn:1≤gn∧gn≤4294967295):HT prog 128 [iV 64,uV gn] [] (fun v K=> ∃b:Nat,v= .tuple #[pV b,iV 0]∧K= [StR b (List.replicate 64 (0,gn))]):=by
 refine hiS func128 ntmps128 fun g w0 R h0=>g0<|cl0 call129 (r1chk_y gn om) h0 fun _ h11=>g0<|nP 281 [.slice none 0 0] h11 (fun r12 w13 h14=> ?_)
 refine g0 ?_
 have h15:sat g _ (Sl 283 2 none 0 0 (fl eSl [])::_):=sl_nil 283 2 h14
 refine lpS (fun mz_ a w=> ∃i:Nat,∃p2:Option Addr,∃c2:Nat,∃lr:Fr,mz_=64-i∧(i≤64)∧a=mk 38 (([(0,iV 64),(1,uV gn),(6,pV r12),(7,iV (i:Int))]:Fr)++lr)∧sat g w [Sl 283 2 p2 i c2 (fl eSl (List.replicate i (0,gn))),Cl r12 [.slice p2 i c2] 281,R]) (64-0) ⟨0,none,0,_,rfl,(Nat.zero_le _),(lvF [.k 0 (iV 64),.k 1 (uV gn),.k 6 (pV r12),.o 7 (oJ .i64 0 (0:Int))]),h15⟩ ?_
 rintro m17 a18 w19 ⟨i,p2,c2,lr16,rfl,hi,rfl,h20⟩
 refine ga<|go [.s 5 2] ?_
 by_cases c21:(i:Int)<64
 ·
  refine go [.v 5 2 (oT _ c21),rd 7 4 1 0 1 h20]<|nG (fun q_=> .slice (some ⟨q_,0,none⟩) 1 1) 283 [iV 0,uV gn] h20 (fun r22 _ h24=>⟨kd [],?_⟩)
  have h25:=h24.a.t4
  refine actG ?_
  refine aA 34 2 (Ot 30) (Ot 33) (.agg #[iV 0,uV 0]) p2 i c2 1 1 (⟨r22,0,none⟩) 16 underlying279 h25 (fl eSl [(0,gn)]) rfl (cell1 h25 rfl) (fl_one eSl_ok _) (i+1) ?_
  intro p26 cap27 w28 h29
  have h30:sat g _ (Sl 283 2 p26 (i+1) cap27 (fl eSl ((List.replicate i (0,gn))++ [(0,gn)]))::_):=sJ h29
  obtain⟨hn31,hn32⟩:=sl_le h30
  refine nxA ?_
  have h33:=h30.b.t4
  refine g0<|sA [.slice p26 (i+1) cap27] h33 fun w34 h35=>go [.v 6 1 (oIr ((i:Int)+1))] ?_
  refine enL ?_
  have h37:sat g _ (Sl 283 2 p26 (i+1) cap27 (fl eSl (List.replicate (i+1) (0,gn)))::_):=sat_imp h35.a.t4 (fun _ hh_=>by rw[show (((List.replicate i (0,gn))++ [(0,gn)]):List Sl2)=(List.replicate (i+1) (0,gn)) from List.replicate_succ'.symm] at hh_;exact hh_)
  have h39:=tk3 h37.c.b.b.t4
  change ∃n',n'<_∧_
  refine⟨(64-(i+1)),by omega,(i+1),p26,cap27,_,rfl,om,(lvF [.k 0 (iV 64),.k 1 (uV gn),.k 6 (pV r12),.o 7 (oJ .i64 ((i:Int)+1) (((i+1):Nat):Int))]),h39⟩
 refine go [.v 5 2 (oF _ c21)]<|up<|g0 ?_
 have hi_:i=64:=by omega
 have h40:=h20.a.t3
 have h41:sat g w19 [StR r12 (List.replicate 64 (0,gn)),R]:=by rw[hi_] at h40;exact s4_close ⟨List.length_replicate,sok_rep ⟨by omega,by omega⟩⟩ h40
 exact en (.tuple #[pV r12,iV 0]) [] ⟨_,_,rfl,⟨r12,rfl,rfl⟩,h41⟩
theorem r4take_ht(b:Nat)(A:List Sl2):HQ 212 [pV b] [StR b A] (.tuple #[.agg #[iV ((takeV A).1),uV ((takeV A).2.1)],iV ((takeV A).2.2)]) [StR b (takeA A)]:=by
 refine hiS func212 ntmps212 fun g w0 R h0=>g0<|nP 148 [iV 0,uV 0] h0 (fun r10 _ h12=> ?_)
 obtain⟨p16,c17,hP14,h15⟩:=s4_open h12.a.t3
 have hok_:=hP14.2
 refine g0<|cl1 call219 (r4v b p16 c17) h15 fun _ h19=>g0 ?_
 refine lpS (fun mz_ a w=> ∃i:Nat,∃lr:Fr,mz_=64-i∧(i≤64)∧(cnt 0 A i=0)∧a=mk 45 (([(0,pV b),(2,pV r10),(4,iV (i:Int))]:Fr)++lr)∧sat g w [Cl b [.slice p16 64 c17] 281,Sl 283 2 p16 64 c17 (fl eSl A),Cl r10 [iV 0,uV 0] 148,R]) (64-0) ⟨0,_,rfl,(Nat.zero_le _),rfl,(lvF [.k 0 (pV b),.k 2 (pV r10),.o 4 (oJ .i64 0 (0:Int))]),h19⟩ ?_
 rintro m21 a22 w23 ⟨i,lr20,rfl,hi,hc_,rfl,h24⟩
 refine ga<|go [rd 4 4 0 0 1 h24,.v 4 5 (oJ .i64 (64:Int) 64),.s 4 6] ?_
 by_cases c25:(i:Int)<64
 ·
  obtain⟨b26,hp27⟩:=sl_ptr0 (j:=1) h24 rfl om
  refine go [.v 4 6 (oT _ c25),rd 6 3 0 0 1 h24,.s 6 5]<|lwP (.pointer (some ⟨b26,i*2,none⟩)) (liP (Ot 21) (Ot 22) p16 b26 0 (i:Int) 64 c17 underlying279 2 i hp27 (i*2)) ?_
  obtain⟨x28,hx29⟩: ∃x,A[i]? =some x:=⟨_,List.getElem?_eq_getElem (by rw[hP14.1];omega)⟩
  have hb30:=hok_ x28 (List.mem_of_getElem? hx29);have hb30a:=hb30.1;have hb30b:=hb30.2.1;have hb30c:=hb30.2.2.1;have hb30d:=hb30.2.2.2
  refine go [.r 6 7 b26 (i*2) [iV x28.1] ⟨gvc 1 h24 rfl hp27 eSl_ok 0 (iV x28.1) hx29 (i*2),trivial⟩,.s 6 8] ?_
  by_cases c31:x28.1=0
  ·
   refine go [.v 6 8 (qeT _ _ c31),rd 7 3 0 0 1 h24,.s 7 5]<|lwP (.pointer (some ⟨b26,i*2,none⟩)) (liP (Ot 30) (Ot 31) p16 b26 0 (i:Int) 64 c17 underlying279 2 i hp27 (i*2)) ?_
   have h32:=h24.a.t4
   refine g0 ?_
   refine actG ?_
   refine an_storeSl (b:=b26) [(i*2,iV 1)] (cs':=(fl eSl (A.set i (1,x28.2)))) kr kr hp27 (allq ⟨⟨by omega,rfl⟩,trivial⟩) om (fl_upd eSl_ok (i:=i) (x:=x28) (y:=(1,x28.2)) hx29 [(0,iV 1)] rfl rfl rfl) h32 ?_
   intro _ h34
   refine nxB<|go [rd 8 4 1 0 1 h34,.s 8 6]<|lwP (.pointer (some ⟨b26,i*2,none⟩)) (liP (Ot 38) (Ot 39) p16 b26 0 (i:Int) 64 c17 underlying279 2 i hp27 (i*2)) ?_
   have hl35:=fl_n eSl_ok dc h34
   have h36:=h34.b.t4
   refine go [.r 8 8 b26 (i*2+1) [uV x28.2] ⟨gvc 0 h34 rfl hp27 eSl_ok 1 (uV x28.2) (set_at hx29) (i*2+1),trivial⟩]<|sA [iV (i:Int),uV x28.2] h36 fun w37 h38=>g0<|up<|g0 ?_
   have hf_:(inS 0 A 0)[0]? =some (i,x28.2):=by have h_:=inS_at (q:=0) hx29 (show x28.1=0 by omega);rw[hc_] at h_;exact h_
   have ht_:=take_at0 hf_
   have h40:sat g _ (Sl 283 2 p16 64 c17 (fl eSl (takeA A))::_):=sat_imp h38.a.t4 (fun _ hh_=>by rw[show (A.set i (1,x28.2))=(takeA A) from ht_.2.symm] at hh_;exact hh_)
   have h42:sat g _ (StR b (takeA A)::_):=s4_close ⟨(takeA_len A).trans hP14.1,sok_take hP14.2⟩ h40.b.t4
   exact en (.tuple #[.agg #[iV (i:Int),uV x28.2],iV 0]) [rd 0 0 0 0 2 h38] ⟨_,_,rfl,⟨by rw[ht_.1],rfl⟩,h42.B.t2⟩
  refine go [.v 6 8 (qeF _ _ c31),.v 5 1 (oIr ((i:Int)+1))] ?_
  exact enN (64-(i+1)) ⟨(i+1),_,rfl,om,((cnt_no (q:=0) hx29 (by show ¬x28.1=0;omega)).trans hc_),(lvF [.k 0 (pV b),.k 2 (pV r10),.o 4 (oJ .i64 ((i:Int)+1) (((i+1):Nat):Int))]),h24⟩
 refine go [.v 4 6 (oF _ c25)]<|up ?_
 have h44:=h24.b.t4
 refine g0<|sA [iV 0,uV 0] h44 fun w45 h46=>g0 ?_
 have ht_:=take_none (A:=A) (free_all (A:=A) hc_ (by have h_:=hP14.1;omega))
 have h48:sat g _ (Sl 283 2 p16 64 c17 (fl eSl (takeA A))::_):=sat_imp h46.b.t4 (fun _ hh_=>by rw[show A=(takeA A) from ht_.2.symm] at hh_;exact hh_)
 have h50:sat g _ (StR b (takeA A)::_):=s4_close ⟨(takeA_len A).trans hP14.1,sok_take hP14.2⟩ h48.b.t4
 exact en (.tuple #[.agg #[iV 0,uV 0],iV 4]) [rd 0 0 0 0 2 h46] ⟨_,_,rfl,⟨by rw[ht_.1],rfl⟩,h50.B.t2⟩
theorem r4chk_ht(b:Nat)(A:List Sl2)(y z:Int)(hT:A[y.toNat]? =some (1,z))(hy:0≤y∧y≤63):HQ 264 [pV b,.agg #[iV y,uV z]] [StR b A] (iV 0) [StR b A]:=by
 refine hiS func264 ntmps264 fun g w0 R h0=>g0<|nP 148 [iV y,uV z] h0 (fun r10 _ h12=> ?_)
 obtain⟨p16,c17,hP14,h15⟩:=s4_open h12.a.t3
 have hok_:=hP14.2
 refine g0<|cl1 call219 (r4v b p16 c17) h15 fun _ h19=>g0<|dw (fls [0,1,2,3,4,5,6,7,8,9,10,11,12] Tr.nil) h19 fun _ h21=>go [rd 3 1 2 0 1 h21,.v 3 2 (oF (y<0)),rd 3 5 2 0 1 h21,rd 3 9 0 0 1 h21,.v 3 10 (oJ .i64 (64:Int) 64),.v 3 11 (oF (y≥64))]<|dw (fls [0,1,2,3,4,5,6,7,8,9,10,11,12,13,14,15,16,17,18,19,20,21,22,23] Tr.nil) h21 fun w22 h23=> ?_
 obtain⟨b24,hp25⟩:=sl_ptr0 (j:=1) h23 rfl om
 obtain⟨kk26,hk27⟩: ∃z_:Nat,y=(z_:Int):=⟨(y).toNat,by omega⟩
 refine go [rd 5 3 0 0 1 h23,rd 5 5 2 0 1 h23,.s 5 6]<|lw (.pointer (some ⟨b24,kk26*2,none⟩)) (fun _=>liP (Ot 24) (Ot 26) p16 b24 0 y 64 c17 underlying279 2 kk26 hp25 (kk26*2)) ?_
 obtain⟨x28,hx29⟩: ∃x,A[kk26]? =some x:=⟨_,List.getElem?_eq_getElem (by rw[hP14.1];omega)⟩
 have hb30:=hok_ x28 (List.mem_of_getElem? hx29);have hb30a:=hb30.1;have hb30b:=hb30.2.1;have hb30c:=hb30.2.2.1;have hb30d:=hb30.2.2.2
 have hq31:=thr_s4 hT om hx29;have hq31a:=hq31.1;have hq31b:=hq31.2
 refine go [.r 5 8 b24 (kk26*2) [iV x28.1] ⟨gvc 1 h23 rfl hp25 eSl_ok 0 (iV x28.1) hx29 (kk26*2),trivial⟩,.v 5 9 (qnF x28.1 1),rd 5 14 0 0 1 h23,rd 5 16 2 0 1 h23,.s 5 17]<|lw (.pointer (some ⟨b24,kk26*2,none⟩)) (fun _=>liP (Ot 35) (Ot 37) p16 b24 0 y 64 c17 underlying279 2 kk26 hp25 (kk26*2))<|go [.r 5 19 b24 (kk26*2+1) [uV x28.2] ⟨gvc 1 h23 rfl hp25 eSl_ok 1 (uV x28.2) hx29 (kk26*2+1),trivial⟩,rd 5 21 2 1 1 h23,.v 5 22 (qnF x28.2 z)] ?_
 have h32:sat g _ (StR b A::_):=s4_close hP14 h23
 exact enR _ [] h32.B.t2
theorem r4give_ht(b:Nat)(A:List Sl2)(y z:Int)(hT:A[y.toNat]? =some (1,z))(hy:0≤y∧y≤63)(hz_:1≤z∧z≤4294967295):HQ 216 [pV b,.agg #[iV y,uV z]] [StR b A] (iV 0) [StR b (giveA A y.toNat z)]:=by
 refine hiS func216 ntmps216 fun g w0 R h0=>g0<|nP 148 [iV y,uV z] h0 (fun r10 _ h12=> ?_)
 have h13:=h12.a.t3
 refine go [rd 1 1 0 0 2 h12]<|cl1 call264 (r4chk_ht b A y z hT om) h13 fun _ h15=>go [rd 4 1 1 1 1 h15] ?_
 by_cases c16:z≤4294967294
 ·
  refine cl0 call265 (r1nx_y z om) h15 fun _ h18=>g0<|dw (fls [0,1,2,3,4,5,6,7] (Tr.an 8 Tr.nil)) h18 fun _ h20=> ?_
  obtain⟨p23,c24,hP21,h22⟩:=s4_open h20
  have hok_:=hP21.2
  obtain⟨b25,hp26⟩:=sl_ptr0 (j:=1) h22 rfl om
  obtain⟨kk27,hk28⟩: ∃z_:Nat,y=(z_:Int):=⟨(y).toNat,by omega⟩
  refine go [rd 5 3 0 0 1 h22,rd 5 5 2 0 1 h22,.s 5 6]<|lw (.pointer (some ⟨b25,kk27*2,none⟩)) (fun _=>liP (Ot 25) (Ot 27) p23 b25 0 y 64 c24 underlying279 2 kk27 hp26 (kk27*2)) ?_
  have h29:=h22.a.t4
  refine g0 ?_
  refine actG ?_
  obtain⟨x32,hx33⟩: ∃x,A[kk27]? =some x:=⟨_,List.getElem?_eq_getElem (by rw[hP21.1];omega)⟩
  have hb34:=hok_ x32 (List.mem_of_getElem? hx33);have hb34a:=hb34.1;have hb34b:=hb34.2.1;have hb34c:=hb34.2.2.1;have hb34d:=hb34.2.2.2
  have hq35:=thr_s4 hT om hx33;have hq35a:=hq35.1;have hq35b:=hq35.2
  refine an_storeSl (b:=b25) [(kk27*2,iV 2)] (cs':=(fl eSl (A.set kk27 (2,x32.2)))) kr kr hp26 (allq ⟨⟨by omega,rfl⟩,trivial⟩) om (fl_upd eSl_ok (i:=kk27) (x:=x32) (y:=(2,x32.2)) hx33 [(0,iV 2)] rfl rfl rfl) h29 ?_
  intro _ h31
  refine⟨kd [],nxN ?_⟩
  refine g0<|dw (fls [0,1,2,3,4,5,6,7,8] (Tr.an 9 Tr.nil)) h31 fun _ h37=>go [rd 7 3 1 0 1 h37,rd 7 5 2 0 1 h37,.s 7 8]<|lw (.pointer (some ⟨b25,kk27*2,none⟩)) (fun _=>liP (Ot 34) (Ot 36) p23 b25 0 y 64 c24 underlying279 2 kk27 hp26 (kk27*2)) ?_
  refine actG ?_
  have hl40:=fl_n eSl_ok dc h37
  refine an_storeSl (b:=b25) [(kk27*2,iV 0),(kk27*2+1,uV (z+1))] (cs':=(fl eSl ((A.set kk27 (2,x32.2)).set kk27 (0,z+1)))) kr kr hp26 (allq ⟨⟨by omega,rfl⟩,⟨by omega,rfl⟩,trivial⟩) om (fl_upd eSl_ok (i:=kk27) (x:=(2,x32.2)) (y:=(0,z+1)) (set_at hx33) [(0,iV 0),(1,uV (z+1))] rfl rfl rfl) h37 ?_
  intro w38 h39
  refine⟨kd [],nxN ?_⟩
  refine g0 ?_
  have hg_:giveA A y.toNat z=A.set y.toNat (0,z+1):=if_pos om
  have h41:sat g _ (Sl 283 2 p23 64 c24 (fl eSl (giveA A y.toNat z))::_):=sat_imp h39 (fun _ hh_=>by rw[show ((A.set kk27 (2,x32.2)).set kk27 (0,z+1))=(giveA A y.toNat z) from (by rw[hg_,show y.toNat=kk27 by omega,List.set_set])] at hh_;exact hh_)
  have h43:sat g _ (StR b (giveA A y.toNat z)::_):=s4_close ⟨(giveA_len2 A _ _).trans hP21.1,sok_give hP21.2 hz_⟩ h41.a.t4
  exact enR _ [] h43.B.t2
 refine cl0 call265 (r1nx_n z om) h15 fun _ h46=>g0<|dw (fls [0,1,2,3,4,5,6,7] (Tr.an 8 Tr.nil)) h46 fun _ h48=> ?_
 obtain⟨p51,c52,hP49,h50⟩:=s4_open h48
 have hok_:=hP49.2
 obtain⟨b53,hp54⟩:=sl_ptr0 (j:=1) h50 rfl om
 obtain⟨kk55,hk56⟩: ∃z_:Nat,y=(z_:Int):=⟨(y).toNat,by omega⟩
 refine go [rd 5 3 0 0 1 h50,rd 5 5 2 0 1 h50,.s 5 6]<|lw (.pointer (some ⟨b53,kk55*2,none⟩)) (fun _=>liP (Ot 25) (Ot 27) p51 b53 0 y 64 c52 underlying279 2 kk55 hp54 (kk55*2)) ?_
 have h57:=h50.a.t4
 refine g0 ?_
 refine actG ?_
 obtain⟨x60,hx61⟩: ∃x,A[kk55]? =some x:=⟨_,List.getElem?_eq_getElem (by rw[hP49.1];omega)⟩
 have hb62:=hok_ x60 (List.mem_of_getElem? hx61);have hb62a:=hb62.1;have hb62b:=hb62.2.1;have hb62c:=hb62.2.2.1;have hb62d:=hb62.2.2.2
 have hq63:=thr_s4 hT om hx61;have hq63a:=hq63.1;have hq63b:=hq63.2
 refine an_storeSl (b:=b53) [(kk55*2,iV 2)] (cs':=(fl eSl (A.set kk55 (2,x60.2)))) kr kr hp54 (allq ⟨⟨by omega,rfl⟩,trivial⟩) om (fl_upd eSl_ok (i:=kk55) (x:=x60) (y:=(2,x60.2)) hx61 [(0,iV 2)] rfl rfl rfl) h57 ?_
 intro w58 h59
 refine⟨kd [],nxN ?_⟩
 refine g0 ?_
 have hg_:giveA A y.toNat z=A.set y.toNat (2,z):=if_neg om
 have h64:sat g _ (Sl 283 2 p51 64 c52 (fl eSl (giveA A y.toNat z))::_):=sat_imp h59 (fun _ hh_=>by rw[show (A.set kk55 (2,x60.2))=(giveA A y.toNat z) from (by rw[hg_,show y.toNat=kk55 by omega,show x60.2=z by omega])] at hh_;exact hh_)
 have h66:sat g _ (StR b (giveA A y.toNat z)::_):=s4_close ⟨(giveA_len2 A _ _).trans hP49.1,sok_give hP49.2 hz_⟩ h64.a.t4
 exact enR _ [] h66.B.t2
theorem r4tkn_ht(b:Nat)(A:List Sl2):HT prog 288 [pV b] [StR b A] (fun v K=> ∃(p:Option Addr) (c:Nat),v= .slice p ((inS 1 A 0).length) c∧K= [StR b A,Sl 148 2 p ((inS 1 A 0).length) c (fl eRf (inS 1 A 0))]):=by
 refine hiS func288 ntmps288 fun g w0 R h0=>g0 ?_
 obtain⟨p12,c13,hP10,h11⟩:=s4_open h0
 have hok_:=hP10.2
 have h14:sat g _ (Sl 148 2 none 0 0 (fl eRf [])::_):=sl_nil 148 2 h11
 refine lpS (fun mz_ a w=> ∃i:Nat,∃k:Nat,∃p2:Option Addr,∃c2:Nat,∃lr:Fr,mz_=64-i∧(i≤64)∧(k≤i)∧a=mk 41 (([(0,pV b),(3,.slice p2 k c2),(4,iV (i:Int))]:Fr)++lr)∧sat g w [Sl 148 2 p2 k c2 (fl eRf (inS 1 (A.take i) 0)),Cl b [.slice p12 64 c13] 281,Sl 283 2 p12 64 c13 (fl eSl A),R]) (64-0) ⟨0,0,none,0,_,rfl,(Nat.zero_le _),(Nat.le_refl _),(lvF [.k 0 (pV b),.k 3 (.slice none 0 0),.o 4 (oJ .i64 0 (0:Int))]),h14⟩ ?_
 rintro m16 a17 w18 ⟨i,k,p2,c2,lr15,rfl,hi,hk,rfl,h19⟩
 refine ga ?_
 have h20:=h19.a.t4
 refine g0<|cl1 call219 (r4v b p12 c13) h20 fun w21 h22=>go [rd 3 7 0 0 1 h22,.v 3 8 (oJ .i64 (64:Int) 64),.s 3 9] ?_
 by_cases c23:(i:Int)<64
 ·
  obtain⟨b24,hp25⟩:=sl_ptr0 (j:=2) h22 rfl om
  refine go [.v 3 9 (oT _ c23),rd 5 3 0 0 1 h22,.s 5 5]<|lwP (.pointer (some ⟨b24,i*2,none⟩)) (liP (Ot 21) (Ot 22) p12 b24 0 (i:Int) 64 c13 underlying279 2 i hp25 (i*2)) ?_
  obtain⟨x26,hx27⟩: ∃x,A[i]? =some x:=⟨_,List.getElem?_eq_getElem (by rw[hP10.1];omega)⟩
  have hb28:=hok_ x26 (List.mem_of_getElem? hx27);have hb28a:=hb28.1;have hb28b:=hb28.2.1;have hb28c:=hb28.2.2.1;have hb28d:=hb28.2.2.2
  refine go [.r 5 7 b24 (i*2) [iV x26.1] ⟨gvc 2 h22 rfl hp25 eSl_ok 0 (iV x26.1) hx27 (i*2),trivial⟩,.s 5 8] ?_
  by_cases c29:x26.1=1
  ·
   refine go [.v 5 8 (qeT _ _ c29),rd 6 5 0 0 1 h22,.s 6 7]<|lwP (.pointer (some ⟨b24,i*2,none⟩)) (liP (Ot 32) (Ot 33) p12 b24 0 (i:Int) 64 c13 underlying279 2 i hp25 (i*2))<|go [.r 6 9 b24 (i*2+1) [uV x26.2] ⟨gvc 2 h22 rfl hp25 eSl_ok 1 (uV x26.2) hx27 (i*2+1),trivial⟩]<|nG (fun q_=> .slice (some ⟨q_,0,none⟩) 1 1) 148 [iV (i:Int),uV x26.2] h22 (fun r30 _ h32=>⟨kd [],?_⟩)
   have h33:=h32.b.t5
   refine actG ?_
   refine aA 39 2 (Ot 27) (Ot 38) (.agg #[iV 0,uV 0]) p2 k c2 1 1 (⟨r30,0,none⟩) 16 underlying375 h33 (fl eRf [(i,x26.2)]) rfl (cell1 h33 rfl) (fl_one eRf_ok _) (k+1) ?_
   intro p34 cap35 w36 h37
   have h38:sat g _ (Sl 148 2 p34 (k+1) cap35 (fl eRf ((inS 1 (A.take i) 0)++ [(i,x26.2)]))::_):=sJ h37
   obtain⟨hn39,hn40⟩:=sl_le h38
   refine nxA<|go [.v 4 1 (oIr ((i:Int)+1))] ?_
   refine enL ?_
   have h41:sat g _ (Sl 148 2 p34 (k+1) cap35 (fl eRf (inS 1 (A.take (i+1)) 0))::_):=sat_imp h38 (fun _ hh_=>by rw[show ((inS 1 (A.take i) 0)++ [(i,x26.2)])=(inS 1 (A.take (i+1)) 0) from tkR_go hx27 om] at hh_;exact hh_)
   have h43:=tk4 h41.d.d.d.c.t5
   change ∃n',n'<_∧_
   refine⟨(64-(i+1)),by omega,(i+1),k+1,p34,cap35,_,rfl,om,om,(lvF [.k 0 (pV b),.k 3 (.slice p34 (k+1) cap35),.o 4 (oJ .i64 ((i:Int)+1) (((i+1):Nat):Int))]),h43⟩
  refine go [.v 5 8 (qeF _ _ c29),.v 4 1 (oIr ((i:Int)+1))] ?_
  refine enL ?_
  have h45:sat g _ (Sl 148 2 p2 k c2 (fl eRf (inS 1 (A.take (i+1)) 0))::_):=sat_imp h22.a.t4 (fun _ hh_=>by rw[show (inS 1 (A.take i) 0)=(inS 1 (A.take (i+1)) 0) from tkR_no hx27 om] at hh_;exact hh_)
  change ∃n',n'<_∧_
  refine⟨(64-(i+1)),by omega,(i+1),k,p2,c2,_,rfl,om,om,(lvF [.k 0 (pV b),.k 3 (.slice p2 k c2),.o 4 (oJ .i64 ((i:Int)+1) (((i+1):Nat):Int))]),h45⟩
 refine go [.v 3 9 (oF _ c23)]<|up<|g0 ?_
 have h47:sat g _ (Sl 148 2 p2 k c2 (fl eRf (inS 1 A 0))::_):=sat_imp h22.a.t4 (fun _ hh_=>by rw[show (inS 1 (A.take i) 0)=(inS 1 A 0) from (tkR_all (by rw[hP10.1];omega))] at hh_;exact hh_)
 have hl48:=fl_n eRf_ok dc h47
 have hk_:k=((inS 1 A 0).length):=by have h_:=(rfl:(inS 1 A 0).length=(inS 1 A 0).length);omega
 have h49:sat g _ (Sl 148 2 p2 ((inS 1 A 0).length) c2 (fl eRf (inS 1 A 0))::_):=sat_imp h47 (fun _ hh_=>by rw[←hk_];exact hh_)
 have h51:sat g _ (StR b A::_):=s4_close hP10 h49.b.b.t4
 exact en (.slice p2 k c2) [] ⟨_,_,rfl,⟨p2,c2,by rw[hk_],rfl⟩,h51⟩
theorem r4copy_ht(b:Nat)(A:List Sl2):HT prog 165 [pV b] [StR b A] (fun v K=> ∃b2:Nat,v=pV b2∧K= [StR b A,StR b2 A]):=by
 refine hiS func165 ntmps165 fun g w0 R h0=> ?_
 obtain⟨p12,c13,hP10,h11⟩:=s4_open h0
 have hok_:=hP10.2
 refine g0<|cl1 call219 (r4v b p12 c13) h11 fun _ h15=>g0<|nG (fun q_=> .slice (some ⟨q_,0,none⟩) 0 0) 283 [] h15 (fun r16 w17 h18=>⟨kd [],?_⟩)
 have h19:sat g _ (Sl 283 2 (some ⟨r16,0,none⟩) 0 0 (fl eSl [])::_):=sl_of_cl h18 rfl om
 refine go [rd 3 4 1 0 1 h18] ?_
 refine actG ?_
 refine aG 11 2 (Ot 6) (Ot 10) (.agg #[iV 0,uV 0]) (some ⟨r16,0,none⟩) p12 0 0 64 c13 16 underlying279 h19 2 rfl (fl eSl A) (gv_sl _ _ _) (by rw[fl_len eSl_ok,hP10.1]) (fl_one eSl_ok _) 64 ?_
 intro p20 cap21 w22 h23
 have h24:sat g _ (Sl 283 2 p20 64 cap21 (fl eSl A)::_):=sI h23
 obtain⟨hn25,hn26⟩:=sl_le h24
 refine nxA<|g0<|nP 281 [.slice p20 64 cap21] h24 (fun r27 w28 h29=> ?_)
 refine g0 ?_
 have h31:sat g _ (StR b A::_):=s4_close hP10 h29.c.c.t5
 have h33:sat g _ (StR r27 A::_):=s4_close hP10 h31.b.b.t4
 exact en (pV r27) [] ⟨_,_,rfl,⟨r27,rfl,rfl⟩,h33.a.t3⟩
theorem r7chk_ht(ta x y z wy an:Int)(hz0:0≤z)(hz1:z≤4294967295)(hp:0≤ta∧ta≤1099511627776∧(1≤x∧x≤3∧0≤y∧y≤63∧1≤z)∧1≤wy∧wy≤3∧1≤an∧an≤3):HQ 223 [.agg #[iV ta,iV x,iV y,uV z,iV wy,iV an]] [] (iV 0) []:=by
 refine hiS func223 ntmps223 fun g w0 R h0=>g0<|nP 74 [iV ta,iV x,iV y,uV z,iV wy,iV an] h0 (fun _ _ h12=> ?_)
 refine go [rd 1 1 0 0 1 h12,.v 1 2 (oF (ta<0)),rd 1 5 0 0 1 h12,.v 1 6 (oF (ta>1099511627776)),rd 1 10 0 1 3 h12]<|cl0 call173 (dcouter_ok x y z om om om) h12 fun _ h14=>go [rd 1 16 0 4 1 h14,.v 1 17 (oF (wy<1)),rd 1 21 0 4 1 h14,.v 1 22 (oF (wy>3)),rd 1 26 0 5 1 h14,.v 1 27 (oF (an<1)),rd 1 31 0 5 1 h14,.v 1 32 (oF (an>3))] ?_
 exact enR _ [] h14.a.t1
theorem r7new_ht:HT prog 134 [] [] (fun v K=> ∃b:Nat,v=pV b∧K= [LgR b []]):=by
 refine hiS func134 ntmps134 fun g w0 R h0=>g0<|nP 173 [.bool true,.slice none 0 0] h0 (fun r10 w11 h12=> ?_)
 refine g0 ?_
 have h13:sat g _ (Sl 74 6 none 0 0 (fl eAt [])::_):=sl_nil 74 6 h12
 have h15:sat g _ (LgR r10 []::_):=gr_close (T:= []) dc h13.a.t3
 exact en (pV r10) [] ⟨_,_,rfl,⟨r10,rfl,rfl⟩,h15⟩
theorem r7add_ht(b:Nat)(T:List At)(ta x y z wy an:Int)(hz0:0≤z)(hz1:z≤4294967295)(hp:0≤ta∧ta≤1099511627776∧(1≤x∧x≤3∧0≤y∧y≤63∧1≤z)∧1≤wy∧wy≤3∧1≤an∧an≤3)(hTa: ∀a∈T,a.at_≤ta)(hn:T.length<10000):HQ 176 [pV b,.agg #[iV ta,iV x,iV y,uV z,iV wy,iV an]] [LgR b T] (iV 0) [LgR b (T++ [(⟨ta,(x,y,z),wy,an⟩:At)])]:=by
 refine hiS func176 ntmps176 fun g w0 R h0=>g0<|nP 74 [iV ta,iV x,iV y,uV z,iV wy,iV an] h0 (fun r10 _ h12=> ?_)
 obtain⟨p16,c17,hP14,h15⟩:=gr_open h12.a.t3
 refine g0<|cl1 call95 (r7v b (.slice p16 T.length c17)) h15 fun _ h19=>go [rd 3 0 2 0 6 h19]<|cl0 call223 (r7chk_ht ta x y z wy an om om om) h19 fun _ h21=>g0<|dw (fls [0,1,2,3,4,5,6,7,8,9,10,11,12,13,14,15,16,17,18,19,20,21,22,23] Tr.nil) h21 fun _ h23=>go [rd 5 3 0 1 1 h23,.s 5 5] ?_
 by_cases c24:(T.length:Int)>0
 ·
  obtain⟨b25,hp26⟩:=sl_ptr0 (j:=1) h23 rfl om
  obtain⟨kk27,hk28⟩: ∃z:Nat,z=T.length-1:=⟨_,rfl⟩
  refine go [.v 5 5 (oT _ c24),rd 5 8 2 0 1 h23,rd 5 12 0 1 1 h23,rd 5 16 0 1 1 h23,.v 5 18 (oIr ((T.length:Int)-1)),.s 5 19]<|lw (.pointer (some ⟨b25,kk27*6,none⟩)) (fun _=>liP (Ot 23) (Ot 29) p16 b25 0 ((T.length:Int)-1) T.length c17 underlying41 6 kk27 hp26 (kk27*6)) ?_
  obtain⟨x29,hx30⟩:=gX T (T.length-1) om
  have ha31:=hTa _ (List.mem_of_getElem? hx30)
  refine go [.r 5 21 b25 (kk27*6) [iV x29.at_] ⟨gvc 1 h23 rfl hp26 eAt_ok 0 (iV x29.at_) hx30 (kk27*6),trivial⟩,.v 5 22 (oF (ta<x29.at_)),rd 7 3 0 1 1 h23,.v 7 5 (oF ((T.length:Int)≥10000))]<|dw (fls [0,1,2,3,4,5] (Tr.an 6 (Tr.an 7 (fls [8,9] (Tr.an 10 Tr.nil))))) h23 fun _ h33=>go [rd 9 4 0 1 1 h33,rd 9 5 2 0 6 h33]<|nG (fun q_=> .slice (some ⟨q_,0,none⟩) 1 1) 74 [iV ta,iV x,iV y,uV z,iV wy,iV an] h33 (fun r34 _ h36=>⟨kd [rd 0 4 1 1 1 h36],?_⟩)
  have h37:=h36.b.t5
  refine actG ?_
  refine aA 48 6 (Ot 45) (Ot 47) (.agg #[iV 0,iV 0,iV 0,uV 0,iV 0,iV 0]) p16 T.length c17 1 1 (⟨r34,0,none⟩) 48 underlying41 h37 (fl eAt [(⟨ta,(x,y,z),wy,an⟩:At)]) rfl (cell1 h37 rfl) (fl_one eAt_ok _) (T.length+1) ?_
  intro p38 cap39 w40 h41
  have h42:sat g _ (Sl 74 6 p38 (T.length+1) cap39 (fl eAt (T++ [(⟨ta,(x,y,z),wy,an⟩:At)]))::_):=sJ h41
  obtain⟨hn43,hn44⟩:=sl_le h42
  refine⟨kd [],nxG ?_⟩
  have h45:=h42.b.t5
  refine g0<|sG [(1,.slice p38 (T.length+1) cap39)] [.bool true,.slice p38 (T.length+1) cap39] h45 fun w46 h47=>⟨kd [],?_⟩
  refine g0 ?_
  have hl_:(T++ [(⟨ta,(x,y,z),wy,an⟩:At)]).length=T.length+1:=List.length_append
  have h48:sat g _ (LgR b (T++ [(⟨ta,(x,y,z),wy,an⟩:At)])::_):=gr_close (T:=T++ [(⟨ta,(x,y,z),wy,an⟩:At)]) (by rw[hl_];exact hn) (by rw[hl_];exact h47)
  exact enR _ [] h48.c.a.t2
 refine go [.v 5 5 (oF _ c24),rd 7 3 0 1 1 h23,.v 7 5 (oF ((T.length:Int)≥10000))]<|dw (fls [0,1,2,3,4,5] (Tr.an 6 (Tr.an 7 (fls [8,9] (Tr.an 10 Tr.nil))))) h23 fun _ h51=>go [rd 9 4 0 1 1 h51,rd 9 5 2 0 6 h51]<|nG (fun q_=> .slice (some ⟨q_,0,none⟩) 1 1) 74 [iV ta,iV x,iV y,uV z,iV wy,iV an] h51 (fun r52 _ h54=>⟨kd [rd 0 4 1 1 1 h54],?_⟩)
 have h55:=h54.b.t5
 refine actG ?_
 refine aA 48 6 (Ot 45) (Ot 47) (.agg #[iV 0,iV 0,iV 0,uV 0,iV 0,iV 0]) p16 T.length c17 1 1 (⟨r52,0,none⟩) 48 underlying41 h55 (fl eAt [(⟨ta,(x,y,z),wy,an⟩:At)]) rfl (cell1 h55 rfl) (fl_one eAt_ok _) (T.length+1) ?_
 intro p56 cap57 w58 h59
 have h60:sat g _ (Sl 74 6 p56 (T.length+1) cap57 (fl eAt (T++ [(⟨ta,(x,y,z),wy,an⟩:At)]))::_):=sJ h59
 obtain⟨hn61,hn62⟩:=sl_le h60
 refine⟨kd [],nxG ?_⟩
 have h63:=h60.b.t5
 refine g0<|sG [(1,.slice p56 (T.length+1) cap57)] [.bool true,.slice p56 (T.length+1) cap57] h63 fun w64 h65=>⟨kd [],?_⟩
 refine g0 ?_
 have hl_:(T++ [(⟨ta,(x,y,z),wy,an⟩:At)]).length=T.length+1:=List.length_append
 have h66:sat g _ (LgR b (T++ [(⟨ta,(x,y,z),wy,an⟩:At)])::_):=gr_close (T:=T++ [(⟨ta,(x,y,z),wy,an⟩:At)]) (by rw[hl_];exact hn) (by rw[hl_];exact h65)
 exact enR _ [] h66.c.a.t2
theorem r7all_ht(b:Nat)(T:List At):HT prog 40 [pV b] [LgR b T] (fun v K=> ∃(p:Option Addr) (c:Nat),v= .slice p T.length c∧K= [LgR b T,Sl 74 6 p T.length c (fl eAt T)]):=by
 refine hiS func40 ntmps40 fun g w0 R h0=> ?_
 obtain⟨p12,c13,hP10,h11⟩:=gr_open h0
 refine g0<|cl1 call95 (r7v b (.slice p12 T.length c13)) h11 fun _ h15=>g0<|nG (fun q_=> .slice (some ⟨q_,0,none⟩) 0 0) 74 [] h15 (fun r16 w17 h18=>⟨kd [],?_⟩)
 have h19:sat g _ (Sl 74 6 (some ⟨r16,0,none⟩) 0 0 (fl eAt [])::_):=sl_of_cl h18 rfl om
 refine go [rd 3 4 1 1 1 h18] ?_
 refine actG ?_
 refine aG 11 6 (Ot 6) (Ot 10) (.agg #[iV 0,iV 0,iV 0,uV 0,iV 0,iV 0]) (some ⟨r16,0,none⟩) p12 0 0 T.length c13 48 underlying41 h19 2 rfl (fl eAt T) (gv_sl _ _ _) (fl_len eAt_ok _) (fl_one eAt_ok _) T.length ?_
 intro p20 cap21 w22 h23
 have h24:sat g _ (Sl 74 6 p20 T.length cap21 (fl eAt T)::_):=sI h23
 obtain⟨hn25,hn26⟩:=sl_le h24
 refine nxA<|g0 ?_
 have h28:sat g _ (LgR b T::_):=gr_close hP10 h24.b.b.t4
 exact en (.slice p20 T.length cap21) [] ⟨_,_,rfl,⟨p20,cap21,rfl,rfl⟩,h28⟩
theorem r7len_ht(b:Nat)(T:List At):HQ 175 [pV b] [LgR b T] (iV (T.length:Int)) [LgR b T]:=by
 refine hiS func175 ntmps175 fun g w0 R h0=>g0<|cP call40 (r7all_ht b T) h0 ?_
 rintro v K _ (⟨p10,c11,rfl,rfl⟩) h13
 have h14:=ap2 h13
 refine g0 ?_
 exact enR _ [] h14.B.t2
theorem r7copy_ht(b:Nat)(T:List At):HT prog 94 [pV b] [LgR b T] (fun v K=> ∃b2:Nat,v=pV b2∧K= [LgR b T,LgR b2 T]):=by
 refine hiS func94 ntmps94 fun g w0 R h0=> ?_
 obtain⟨p12,c13,hP10,h11⟩:=gr_open h0
 refine g0<|cl1 call95 (r7v b (.slice p12 T.length c13)) h11 fun w14 h15=> ?_
 have h16:sat g _ (LgR b T::_):=gr_close hP10 h15
 refine g0<|cP call40 (r7all_ht b T) h16 ?_
 rintro v K _ (⟨p17,c18,rfl,rfl⟩) h20
 have h21:=ap2 h20
 refine g0<|nP 173 [.bool true,.slice p17 T.length c18] h21 (fun r22 w23 h24=> ?_)
 refine g0 ?_
 have h26:sat g _ (LgR r22 T::_):=gr_close hP10 h24.b.a.t4
 exact en (pV r22) [] ⟨_,_,rfl,⟨r22,rfl,rfl⟩,h26.a.t3⟩
end Go.Proofs.YtehlamblpekmkaaGreatDoor
