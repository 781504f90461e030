/- Walks, printed by my generator P:../out/o9.py. -/
import Derived.Test.YtcgkoffnknpgjaaGreatDoorBundle37
import Derived.Test.YtcgkoffnknpgjaaGreatDoorHq
import Derived.Test.YtcgkoffnknpgjaaGreatDoorInv
namespace Go.Proofs.YtcgkoffnknpgjaaGreatDoor
set_option linter.unusedVariables false
set_option linter.unusedSimpArgs false
open Tryz
set_option maxHeartbeats 4000000
abbrev wsix(b f p d s l:Nat)(S:Wst):List Assn:= [Cl b [Value.nilIface,Value.iface 179 (Value.pointer (some ⟨f,0,none⟩)),Value.iface 182 (Value.pointer (some ⟨p,0,none⟩)),Value.iface 185 (Value.pointer (some ⟨d,0,none⟩)),Value.pointer (some ⟨s,0,none⟩),Value.pointer (some ⟨l,0,none⟩),Value.int IntKind.i64 S.now] 113,Fd f 64 S.F,Pl p S.B,Dk d S.D,Sr 288 s S.q,Lg l S.T]
theorem wvalid_cl(b l:Nat)(v0 v1 v2 v3 v4 v5:Value):HQ 40 [pV b] [Cl b [v0,v1,v2,v3,v4,pV l,v5] 113] (.bool true) [Cl b [v0,v1,v2,v3,v4,pV l,v5] 113]:=by
 refine hiS func40 ntmps40 fun g w0 R h0=>go [rd 1 6 0 5 1 h0] ?_
 exact enR _ [] h0
theorem wnew_ht(gn:Int)(hgn:1≤gn∧gn≤4294967295):HT prog 32 [uV gn] [] (fun v K=> ∃b:Nat,v= .tuple #[pV b,iV 0]∧K= [Wd b (wnew gn)]):=by
 refine hiS func32 ntmps32 fun g w0 R h0=>g0<|cl0 call68 (gcheck_ok gn om om) h0 fun _ h11=>g0<|cP call69 (by have h_:=fnew_ok 64 gn dc om;exact h_) h11 ?_
 rintro v K _ (⟨b12,rfl,rfl⟩) h14
 have h15:=ap1 h14
 refine g0<|cP call70 (pnew_ht gn om) h15 ?_
 rintro v K _ (⟨b16,rfl,rfl⟩) h18
 have h19:=ap1 h18
 refine g0<|cP call71 (lnew_ht gn om) h19 ?_
 rintro v K _ (⟨b20,rfl,rfl⟩) h22
 have h23:=ap1 h22
 refine g0<|cP call72 new_ht h23 ?_
 rintro v K _ (⟨b24,rfl,rfl⟩) h26
 refine cP call73 lgnew_ht (ap1 h26) ?_
 rintro v K _ (⟨b28,rfl,rfl⟩) h30
 have h31:=ap1 h30
 refine g0<|nP 113 [Value.nilIface,Value.nilIface,Value.nilIface,Value.nilIface,pV b24,pV b28,iV 0] h31 (fun r32 _ h34=> ?_)
 refine g0<|dw (fls [0,1,2,3,4,5,6,7,8,9,10,11,13,14,17,18] (Tr.an 12 (Tr.fl 15 (Tr.an 16 (Tr.fl 19 (Tr.an 20 Tr.nil)))))) h34 fun _ h36=>go [.s 13 4]<|lw (.iface 179 (pV b12)) (fun _=>law_mkIface (t:=179) (x:=Ot 43) kr underlying179 rfl (pV b12) kr _)<|go [.s 13 6]<|lw (.iface 182 (pV b16)) (fun _=>law_mkIface (t:=182) (x:=Ot 45) kr underlying182 rfl (pV b16) kr _)<|go [.s 13 8]<|lw (.iface 185 (pV b20)) (fun _=>law_mkIface (t:=185) (x:=Ot 47) kr underlying185 rfl (pV b20) kr _)<|go [.s 13 11]<|lw (.pointer (some ⟨r32,1,none⟩)) (fun _=>law_indexArr (x:=Ot 50) (i:=(Operand.const (iV 1))) (b:=r32) (off:=0) (z:=1) kr underlying110 1 kr 1 kr kr om om 1 om _)<|g0<|sG [(1,.iface 179 (pV b12))] [Value.nilIface,.iface 179 (pV b12),Value.nilIface,Value.nilIface,pV b24,pV b28,iV 0] h36 fun _ h38=>⟨kd [],?_⟩
 refine lw (.pointer (some ⟨r32,2,none⟩)) (fun _=>law_indexArr (x:=Ot 53) (i:=(Operand.const (iV 2))) (b:=r32) (off:=0) (z:=2) kr underlying110 1 kr 2 kr kr om om 2 om _)<|sG [(2,.iface 182 (pV b16))] [Value.nilIface,.iface 179 (pV b12),.iface 182 (pV b16),Value.nilIface,pV b24,pV b28,iV 0] h38 fun _ h40=>⟨kd [],?_⟩
 refine lw (.pointer (some ⟨r32,3,none⟩)) (fun _=>law_indexArr (x:=Ot 56) (i:=(Operand.const (iV 3))) (b:=r32) (off:=0) (z:=3) kr underlying110 1 kr 3 kr kr om om 3 om _)<|sG [(3,.iface 185 (pV b20))] [Value.nilIface,.iface 179 (pV b12),.iface 182 (pV b16),.iface 185 (pV b20),pV b24,pV b28,iV 0] h40 fun w41 h42=>⟨kd [],?_⟩
 refine g0 ?_
 have h44:sat g _ (Wd r32 (wnew gn)::_):=wd_close (wok_new hgn) h42.b.c.d.e.d.t7
 exact en (.tuple #[pV r32,iV 0]) [] ⟨_,_,rfl,⟨r32,rfl,rfl⟩,h44⟩
theorem has_no(b f p d s l:Nat)(S:Wst)(hW:WOk S)(x y z:Int)(hz0:0≤z)(hz1:z≤4294967295)(hg: ¬(1≤x∧x≤3∧0≤y∧y≤63∧1≤z)):HQ 358 [pV b,.agg #[iV x,iV y,uV z]] [Cl b [Value.nilIface,.iface 179 (pV f),.iface 182 (pV p),.iface 185 (pV d),pV s,pV l,iV S.now] 113,Fd f 64 S.F,Pl p S.B,Dk d S.D,Sr 288 s S.q,Lg l S.T] (.bool false) [Cl b [Value.nilIface,.iface 179 (pV f),.iface 182 (pV p),.iface 185 (pV d),pV s,pV l,iV S.now] 113,Fd f 64 S.F,Pl p S.B,Dk d S.D,Sr 288 s S.q,Lg l S.T]:=by
 refine hiS func358 ntmps358 fun g w0 R h0=>g0<|nP 48 [iV x,iV y,uV z] h0 (fun _ _ h12=> ?_)
 refine g0<|dw (Tr.fl 0 (Tr.an 1 (fls [2,3] (Tr.an 4 (fls [5,6,7,8,9,10,11,12,13,14,16] (Tr.an 15 (Tr.an 17 (fls [18,19] Tr.nil)))))))) h12 fun _ h14=> ?_
 have h15:=h14.a.t8
 refine g0<|cw1 call40 (wvalid_cl b l Value.nilIface (.iface 179 (pV f)) (.iface 182 (pV p)) (.iface 185 (pV d)) (pV s) (iV S.now)) h15 fun _ h17=>⟨kd [],?_⟩
 refine go [rd 1 3 1 0 3 h17] ?_
 by_cases c18:1≤x
 ·
  by_cases c19:x≤3
  ·
   by_cases c20:0≤y
   ·
    by_cases c21:y≤63
    ·
     refine cw0 call273 (couter_no x y z om om om) h17 fun _ h23=>⟨kd [],?_⟩
     refine g0<|dsk []<|dsk []<|g0 ?_
     exact enR _ [] (tk7 (sf6 (sf6 (sf6 (sf6 (sf6 (sf6 (sf7 h23.f.f.f.f.f.e.t8))))))))
    refine cw0 call273 (couter_no x y z om om om) h17 fun _ h27=>⟨kd [],?_⟩
    refine g0<|dsk []<|dsk []<|g0 ?_
    exact enR _ [] (tk7 (sf6 (sf6 (sf6 (sf6 (sf6 (sf6 (sf7 h27.f.f.f.f.f.e.t8))))))))
   refine cw0 call273 (couter_no x y z om om om) h17 fun _ h31=>⟨kd [],?_⟩
   refine g0<|dsk []<|dsk []<|g0 ?_
   exact enR _ [] (tk7 (sf6 (sf6 (sf6 (sf6 (sf6 (sf6 (sf7 h31.f.f.f.f.f.e.t8))))))))
  refine cw0 call273 (couter_no x y z om om om) h17 fun _ h35=>⟨kd [],?_⟩
  refine g0<|dsk []<|dsk []<|g0 ?_
  exact enR _ [] (tk7 (sf6 (sf6 (sf6 (sf6 (sf6 (sf6 (sf7 h35.f.f.f.f.f.e.t8))))))))
 refine cw0 call273 (couter_no x y z om om om) h17 fun _ h39=>⟨kd [],?_⟩
 refine g0<|dsk []<|dsk []<|g0 ?_
 exact enR _ [] (tk7 (sf6 (sf6 (sf6 (sf6 (sf6 (sf6 (sf7 h39.f.f.f.f.f.e.t8))))))))
theorem has_1(b f p d s l:Nat)(S:Wst)(hW:WOk S)(y z:Int)(hz0:0≤z)(hz1:z≤4294967295)(hg:KGood (1,y,z))(hy0:0≤y)(hy1:y≤63)(hz:1≤z):HQ 358 [pV b,.agg #[iV 1,iV y,uV z]] [Cl b [Value.nilIface,.iface 179 (pV f),.iface 182 (pV p),.iface 185 (pV d),pV s,pV l,iV S.now] 113,Fd f 64 S.F,Pl p S.B,Dk d S.D,Sr 288 s S.q,Lg l S.T] (.bool (decide (Thr S (1,y,z)))) [Cl b [Value.nilIface,.iface 179 (pV f),.iface 182 (pV p),.iface 185 (pV d),pV s,pV l,iV S.now] 113,Fd f 64 S.F,Pl p S.B,Dk d S.D,Sr 288 s S.q,Lg l S.T]:=by
 refine hiS func358 ntmps358 fun g w0 R h0=>g0<|nP 48 [iV 1,iV y,uV z] h0 (fun _ _ h12=> ?_)
 refine g0<|dw (Tr.fl 0 (Tr.an 1 (fls [2,3] (Tr.an 4 (fls [5,6,7,8,9,10,11,12,13,14,16] (Tr.an 15 (Tr.an 17 (fls [18,19] Tr.nil)))))))) h12 fun _ h14=> ?_
 have h15:=h14.a.t8
 refine g0<|cw1 call40 (wvalid_cl b l Value.nilIface (.iface 179 (pV f)) (.iface 182 (pV p)) (.iface 185 (pV d)) (pV s) (iV S.now)) h15 fun _ h17=>⟨kd [],?_⟩
 refine go [rd 1 3 1 0 3 h17]<|cw0 call273 (couter_ok 1 y z om om om) h17 fun _ h19=>⟨kd [],?_⟩
 refine go [rd 1 10 1 0 1 h19,.s 1 13]<|lw (.pointer (some ⟨b,1,none⟩)) (fun _=>law_indexArr (x:=Ot 17) (i:=Ot 15) (b:=b) (off:=0) (z:=1) kr underlying110 1 kr 1 kr kr om om 1 om _) ?_
 have h22:=h19.b.t8
 refine go [rd 1 14 0 1 1 h19,rd 1 16 1 0 3 h19] ?_
 refine iG 179 (pV f) "All" [] 543 (by have h_:=fall_ht f 64 S.F;exact h_) h22 ?_
 rintro v K _ (⟨p20,c21,rfl,rfl⟩) h24
 have h25:=ap2 h24
 have hl26:((inS 1 (As S.F) 0).length)≤64:=by have h_:=inS_len 1 (As S.F) 0;rw[as_len,hW.fl] at h_;exact h_
 refine⟨kd [rd 0 16 3 0 3 h25],?_⟩
 refine cw1 call403 (oct_ht p20 ((inS 1 (As S.F) 0).length) c21 (allK 1 S.F) (Sl 48 3 p20 ((inS 1 (As S.F) 0).length) c21 (fl eO (allK 1 S.F))) (gv_sl _ _ _) (allK_len _ _) om 1 y z) h25.a.t9 fun _ h29=>⟨kd [],?_⟩
 refine g0 ?_
 exact en (.bool (decide ((1,y,z)∈(allK 1 S.F)))) [] ⟨_,_,rfl,⟨by rw[←thr_dec hg];rfl,rfl⟩,(tk7 (sf6 (sf6 (sf6 (sf6 (sf6 (sf6 (sf8 h29.x.x.x.x.e.f.t9))))))))⟩
theorem has_2(b f p d s l:Nat)(S:Wst)(hW:WOk S)(y z:Int)(hz0:0≤z)(hz1:z≤4294967295)(hg:KGood (2,y,z))(hy0:0≤y)(hy1:y≤63)(hz:1≤z):HQ 358 [pV b,.agg #[iV 2,iV y,uV z]] [Cl b [Value.nilIface,.iface 179 (pV f),.iface 182 (pV p),.iface 185 (pV d),pV s,pV l,iV S.now] 113,Fd f 64 S.F,Pl p S.B,Dk d S.D,Sr 288 s S.q,Lg l S.T] (.bool (decide (Thr S (2,y,z)))) [Cl b [Value.nilIface,.iface 179 (pV f),.iface 182 (pV p),.iface 185 (pV d),pV s,pV l,iV S.now] 113,Fd f 64 S.F,Pl p S.B,Dk d S.D,Sr 288 s S.q,Lg l S.T]:=by
 refine hiS func358 ntmps358 fun g w0 R h0=>g0<|nP 48 [iV 2,iV y,uV z] h0 (fun _ _ h12=> ?_)
 refine g0<|dw (Tr.fl 0 (Tr.an 1 (fls [2,3] (Tr.an 4 (fls [5,6,7,8,9,10,11,12,13,14,16] (Tr.an 15 (Tr.an 17 (fls [18,19] Tr.nil)))))))) h12 fun _ h14=> ?_
 have h15:=h14.a.t8
 refine g0<|cw1 call40 (wvalid_cl b l Value.nilIface (.iface 179 (pV f)) (.iface 182 (pV p)) (.iface 185 (pV d)) (pV s) (iV S.now)) h15 fun _ h17=>⟨kd [],?_⟩
 refine go [rd 1 3 1 0 3 h17]<|cw0 call273 (couter_ok 2 y z om om om) h17 fun _ h19=>⟨kd [],?_⟩
 refine go [rd 1 10 1 0 1 h19,.s 1 13]<|lw (.pointer (some ⟨b,2,none⟩)) (fun _=>law_indexArr (x:=Ot 17) (i:=Ot 15) (b:=b) (off:=0) (z:=2) kr underlying110 1 kr 2 kr kr om om 2 om _) ?_
 have h22:=h19.c.t8
 refine go [rd 1 14 0 2 1 h19,rd 1 16 1 0 3 h19] ?_
 refine iG 182 (pV p) "All" [] 545 (pall_ht p S.B) h22 ?_
 rintro v K _ (⟨p20,c21,rfl,rfl⟩) h24
 have h25:=ap2 h24
 have hl26:((inS 1 (As S.B) 0).length)≤64:=by have h_:=inS_len 1 (As S.B) 0;rw[as_len,hW.bl] at h_;exact h_
 refine⟨kd [rd 0 16 3 0 3 h25],?_⟩
 refine cw1 call403 (oct_ht p20 ((inS 1 (As S.B) 0).length) c21 (allK 2 S.B) (Sl 48 3 p20 ((inS 1 (As S.B) 0).length) c21 (fl eO (allK 2 S.B))) (gv_sl _ _ _) (allK_len _ _) om 2 y z) h25.a.t9 fun _ h29=>⟨kd [],?_⟩
 refine g0 ?_
 exact en (.bool (decide ((2,y,z)∈(allK 2 S.B)))) [] ⟨_,_,rfl,⟨by rw[←thr_dec hg];rfl,rfl⟩,(tk7 (sf6 (sf6 (sf6 (sf6 (sf6 (sf6 (sf8 h29.x.x.x.d.x.f.t9))))))))⟩
theorem has_3(b f p d s l:Nat)(S:Wst)(hW:WOk S)(y z:Int)(hz0:0≤z)(hz1:z≤4294967295)(hg:KGood (3,y,z))(hy0:0≤y)(hy1:y≤63)(hz:1≤z):HQ 358 [pV b,.agg #[iV 3,iV y,uV z]] [Cl b [Value.nilIface,.iface 179 (pV f),.iface 182 (pV p),.iface 185 (pV d),pV s,pV l,iV S.now] 113,Fd f 64 S.F,Pl p S.B,Dk d S.D,Sr 288 s S.q,Lg l S.T] (.bool (decide (Thr S (3,y,z)))) [Cl b [Value.nilIface,.iface 179 (pV f),.iface 182 (pV p),.iface 185 (pV d),pV s,pV l,iV S.now] 113,Fd f 64 S.F,Pl p S.B,Dk d S.D,Sr 288 s S.q,Lg l S.T]:=by
 refine hiS func358 ntmps358 fun g w0 R h0=>g0<|nP 48 [iV 3,iV y,uV z] h0 (fun _ _ h12=> ?_)
 refine g0<|dw (Tr.fl 0 (Tr.an 1 (fls [2,3] (Tr.an 4 (fls [5,6,7,8,9,10,11,12,13,14,16] (Tr.an 15 (Tr.an 17 (fls [18,19] Tr.nil)))))))) h12 fun _ h14=> ?_
 have h15:=h14.a.t8
 refine g0<|cw1 call40 (wvalid_cl b l Value.nilIface (.iface 179 (pV f)) (.iface 182 (pV p)) (.iface 185 (pV d)) (pV s) (iV S.now)) h15 fun _ h17=>⟨kd [],?_⟩
 refine go [rd 1 3 1 0 3 h17]<|cw0 call273 (couter_ok 3 y z om om om) h17 fun _ h19=>⟨kd [],?_⟩
 refine go [rd 1 10 1 0 1 h19,.s 1 13]<|lw (.pointer (some ⟨b,3,none⟩)) (fun _=>law_indexArr (x:=Ot 17) (i:=Ot 15) (b:=b) (off:=0) (z:=3) kr underlying110 1 kr 3 kr kr om om 3 om _) ?_
 have h22:=h19.d.t8
 refine go [rd 1 14 0 3 1 h19,rd 1 16 1 0 3 h19] ?_
 refine iG 185 (pV d) "All" [] 547 (dall_ht d S.D) h22 ?_
 rintro v K _ (⟨p20,c21,rfl,rfl⟩) h24
 have h25:=ap2 h24
 have hl26:((inS 1 (As S.D) 0).length)≤64:=by have h_:=inS_len 1 (As S.D) 0;rw[as_len,hW.dl] at h_;exact h_
 refine⟨kd [rd 0 16 3 0 3 h25],?_⟩
 refine cw1 call403 (oct_ht p20 ((inS 1 (As S.D) 0).length) c21 (allK 3 S.D) (Sl 48 3 p20 ((inS 1 (As S.D) 0).length) c21 (fl eO (allK 3 S.D))) (gv_sl _ _ _) (allK_len _ _) om 3 y z) h25.a.t9 fun _ h29=>⟨kd [],?_⟩
 refine g0 ?_
 exact en (.bool (decide ((3,y,z)∈(allK 3 S.D)))) [] ⟨_,_,rfl,⟨by rw[←thr_dec hg];rfl,rfl⟩,(tk7 (sf6 (sf6 (sf6 (sf6 (sf6 (sf6 (sf8 h29.x.x.c.x.x.f.t9))))))))⟩
theorem has_ht(b f p d s l:Nat)(S:Wst)(hW:WOk S)(x y z:Int)(hz0:0≤z)(hz1:z≤4294967295):HT prog 358 [pV b,.agg #[iV x,iV y,uV z]] (wsix b f p d s l S) (fun v K=>v= .bool (decide (Thr S (x,y,z)))∧K=wsix b f p d s l S):=by
 by_cases h:KGood (x,y,z)
 · rcases kgood_k h with h1|h1|h1
   · have h2:x=1:=h1
     subst h2
     exact has_1 b f p d s l S hW y z hz0 hz1 h h.2.2.1 h.2.2.2.1 h.2.2.2.2
   · have h2:x=2:=h1
     subst h2
     exact has_2 b f p d s l S hW y z hz0 hz1 h h.2.2.1 h.2.2.2.1 h.2.2.2.2
   · have h2:x=3:=h1
     subst h2
     exact has_3 b f p d s l S hW y z hz0 hz1 h h.2.2.1 h.2.2.2.1 h.2.2.2.2
 · rw[decide_eq_false (fun h1:Thr S (x,y,z)=>h h1.1)]
   exact has_no b f p d s l S hW x y z hz0 hz1 h
section
section
variable {S : Wst} {k y z t : Int} {o : Ky}
theorem thr_at(h:Thr S (k,y,z)):(As (S.tab k))[y.toNat]? =some (1,z):=h.2
theorem thr_nat(h:KGood (k,y,z)):y=(y.toNat:Int):=by have h1:0≤y:=h.2.2.1;omega
end
end
theorem ospan_y(t:Int)(ht:1≤t∧t≤1048576):HQ 285 [iV t] [] (.bool true) []:=by
 refine hiS func285 ntmps285 fun g w0 R h0=>go [.v 1 1 (oT (t≥1)),.v 1 4 (oT (t≤1048576))] ?_
 exact enR _ [] h0
theorem ospan_n(t:Int)(ht:t<1∨1048576<t):HQ 285 [iV t] [] (.bool false) []:=by
 refine hiS func285 ntmps285 fun g w0 R h0=>go [.s 1 1] ?_
 by_cases c10:t≥1
 ·
  refine go [.v 1 1 (oT _ c10),.v 1 4 (oF (t≤1048576))] ?_
  exact enR _ [] h0
 refine go [.v 1 1 (oF _ c10)] ?_
 exact enR _ [] h0
theorem wnow_ht(b:Nat)(S:Wst):HQ 301 [pV b] [Wd b S] (iV S.now) [Wd b S]:=by
 refine hiS func301 ntmps301 fun g w0 R h0=> ?_
 obtain⟨f10,p11,d12,s13,l14,hW15,h16⟩:=wd_open h0
 have hW15n:=hW15.nl;have hW15m:=hW15.nh;have hW15t:=hW15.tn
 refine g0<|cl1 call40 (wvalid_cl b l14 Value.nilIface (.iface 179 (pV f10)) (.iface 182 (pV p11)) (.iface 185 (pV d12)) (pV s13) (iV S.now)) h16 fun w17 h18=>go [rd 3 3 0 6 1 h18] ?_
 have h19:sat g _ (Wd b S::_):=wd_close hW15 h18
 exact enR _ [] h19
theorem wledg_ht(b:Nat)(S:Wst):HT prog 20 [pV b] [Wd b S] (fun v K=> ∃b2:Nat,v=pV b2∧K= [Wd b S,Lg b2 S.T]):=by
 refine hiS func20 ntmps20 fun g w0 R h0=> ?_
 obtain⟨f10,p11,d12,s13,l14,hW15,h16⟩:=wd_open h0
 have hW15n:=hW15.nl;have hW15m:=hW15.nh;have hW15t:=hW15.tn
 refine g0<|cl1 call40 (wvalid_cl b l14 Value.nilIface (.iface 179 (pV f10)) (.iface 182 (pV p11)) (.iface 185 (pV d12)) (pV s13) (iV S.now)) h16 fun _ h18=> ?_
 have h20:=h18.e.t7
 refine go [rd 3 3 0 5 1 h18]<|cP call41 (lgcopy_ht l14 S.T) h20 ?_
 rintro v K w21 (⟨b19,rfl,rfl⟩) h22
 have h23:=ap2 h22
 refine g0 ?_
 have h25:sat g _ (Wd b S::_):=wd_close hW15 h23.f.f.f.f.f.t8
 exact en (pV b19) [] ⟨_,_,rfl,⟨b19,rfl,rfl⟩,h25⟩
theorem wcopy_ht(b:Nat)(S:Wst):HT prog 39 [pV b] [Wd b S] (fun v K=> ∃b2:Nat,v=pV b2∧K= [Wd b S,Wd b2 S]):=by
 refine hiS func39 ntmps39 fun g w0 R h0=> ?_
 obtain⟨f10,p11,d12,s13,l14,hW15,h16⟩:=wd_open h0
 have hW15n:=hW15.nl;have hW15m:=hW15.nh;have hW15t:=hW15.tn
 refine g0<|cl1 call40 (wvalid_cl b l14 Value.nilIface (.iface 179 (pV f10)) (.iface 182 (pV p11)) (.iface 185 (pV d12)) (pV s13) (iV S.now)) h16 fun _ h18=>g0<|dw (fls [0,1,2,3,5,6,7,8,10,11,12,13] (Tr.an 4 (Tr.an 9 (Tr.fl 14 (Tr.an 15 (Tr.fl 16 Tr.nil)))))) h18 fun _ h20=> ?_
 have h22:=h20.d.t7
 refine go [rd 3 3 0 4 1 h20,rd 3 8 0 5 1 h20,rd 3 13 0 6 1 h20]<|cG call105 (copy_ht s13 S.q) h22 ?_
 rintro v K _ (⟨b21,rfl,rfl⟩) h24
 have h25:=ap2 h24
 refine⟨kd [rd 0 13 2 6 1 h25,rd 0 8 2 5 1 h25],?_⟩
 refine cG call41 (lgcopy_ht l14 S.T) h25.f.t8 ?_
 rintro v K _ (⟨b26,rfl,rfl⟩) h29
 have h30:=ap2 h29
 refine⟨kd [rd 0 13 4 6 1 h30],?_⟩
 refine g0<|nG (fun q_=>pV q_) 113 [Value.nilIface,Value.nilIface,Value.nilIface,Value.nilIface,pV b21,pV b26,iV S.now] h30 (fun r31 _ h33=>⟨kd [],?_⟩)
 refine go [rd 4 3 5 0 4 h33]<|unS 4<|g0<|unN<|g0<|dw (fls [0,1,2,5,6] (Tr.an 3 (fls [4,7] (Tr.an 8 Tr.nil)))) h33 fun _ h35=> ?_
 have h37:=h35.f.t10
 refine g0<|cG call106 (fcopy_ht f10 64 S.F) h37 ?_
 rintro v K _ (⟨b36,rfl,rfl⟩) h39
 have h40:=ap2 h39
 refine⟨kd [],?_⟩
 refine lw (.iface 179 (pV b36)) (fun _=>law_mkIface (t:=179) (x:=Ot 43) kr underlying179 rfl (pV b36) kr _)<|lw (.pointer (some ⟨r31,1,none⟩)) (fun _=>law_indexArr (x:=Ot 46) (i:=Ot 41) (b:=r31) (off:=0) (z:=1) kr underlying110 1 kr 1 kr kr om om 1 om _)<|sG [(1,.iface 179 (pV b36))] [Value.nilIface,.iface 179 (pV b36),Value.nilIface,Value.nilIface,pV b21,pV b26,iV S.now] h40.b.t11 fun _ h43=>⟨kd [],?_⟩
 refine g0<|unN<|g0<|dw (fls [0,1,2,5,6] (Tr.an 3 (fls [4,7] (Tr.an 8 Tr.nil)))) h43 fun _ h45=> ?_
 have h47:=h45.h.t11
 refine g0<|cG call107 (pcopy_ht p11 S.B) h47 ?_
 rintro v K _ (⟨b46,rfl,rfl⟩) h49
 have h50:=ap2 h49
 refine⟨kd [],?_⟩
 refine lw (.iface 182 (pV b46)) (fun _=>law_mkIface (t:=182) (x:=Ot 54) kr underlying182 rfl (pV b46) kr _)<|lw (.pointer (some ⟨r31,2,none⟩)) (fun _=>law_indexArr (x:=Ot 57) (i:=Ot 52) (b:=r31) (off:=0) (z:=2) kr underlying110 1 kr 2 kr kr om om 2 om _)<|sG [(2,.iface 182 (pV b46))] [Value.nilIface,.iface 179 (pV b36),.iface 182 (pV b46),Value.nilIface,pV b21,pV b26,iV S.now] h50.b.t12 fun _ h53=>⟨kd [],?_⟩
 refine g0<|unN<|g0<|dw (fls [0,1,2,5,6] (Tr.an 3 (fls [4,7] (Tr.an 8 Tr.nil)))) h53 fun _ h55=> ?_
 have h57:=h55.j.t12
 refine g0<|cG call108 (lcopy_ht d12 S.D) h57 ?_
 rintro v K _ (⟨b56,rfl,rfl⟩) h59
 have h60:=ap2 h59
 refine⟨kd [],?_⟩
 refine lw (.iface 185 (pV b56)) (fun _=>law_mkIface (t:=185) (x:=Ot 65) kr underlying185 rfl (pV b56) kr _)<|lw (.pointer (some ⟨r31,3,none⟩)) (fun _=>law_indexArr (x:=Ot 68) (i:=Ot 63) (b:=r31) (off:=0) (z:=3) kr underlying110 1 kr 3 kr kr om om 3 om _)<|sG [(3,.iface 185 (pV b56))] [Value.nilIface,.iface 179 (pV b36),.iface 182 (pV b46),.iface 185 (pV b56),pV b21,pV b26,iV S.now] h60.b.t13 fun w62 h63=>⟨kd [],?_⟩
 refine g0<|unN<|g0<|up<|g0 ?_
 have h65:sat g _ (Wd b S::_):=wd_close hW15 h63.x.j.c.e.x.k.t13
 have h67:sat g _ (Wd r31 S::_):=wd_close hW15 h65.e.f.d.e.f.f.t8
 exact en (pV r31) [] ⟨_,_,rfl,⟨r31,rfl,rfl⟩,h67.a.t3⟩
section
section
variable {S : Wst} {k a y z wy : Int} {o : Ky}
theorem acq_arg(h: ¬godP k a):acqE S k a=2∧acqO S k a=(0,0,0)∧acqS S k a=S:=by
 have e:acqE S k a=2:=if_pos h
 exact⟨e,if_neg (by rw[e];decide),if_pos (.inl h)⟩
theorem acq_err(h:godP k a){e:Int}(he:grwE S k a=e)(h0:e≠0):acqE S k a=e∧acqO S k a=(0,0,0)∧acqS S k a=S:=by
 have e1:acqE S k a=e:=by unfold acqE;rw[if_neg (fun q=>q h),if_pos (by rw[he];exact h0),he]
 exact⟨e1,if_neg (by rw[e1];exact h0),if_pos (.inr (by rw[he];exact h0))⟩
theorem acq_later(h:godP k a)(he:grwE S k a=0)(hq:S.q.headD 1=2):acqE S k a=15∧acqO S k a=(0,0,0)∧acqS S k a= {S with q:=S.q.tail}:=by
 have e1:acqE S k a=15:=by unfold acqE;rw[if_neg (fun q=>q h),if_neg (fun q=>q he),if_pos hq]
 refine⟨e1,if_neg (by rw[e1];decide),?_⟩
 unfold acqS
 rw[if_neg (by rintro(q|q);exact q h;exact q he),if_neg (by rw[e1];decide)]
theorem acq_fail(h:godP k a)(he:grwE S k a=0)(hq2:S.q.headD 1≠2)(hq:S.q.headD 1=3):acqE S k a=14∧acqO S k a=(0,0,0)∧acqS S k a= {S with q:=S.q.tail}:=by
 have e1:acqE S k a=14:=by unfold acqE;rw[if_neg (fun q=>q h),if_neg (fun q=>q he),if_neg hq2,if_pos hq]
 refine⟨e1,if_neg (by rw[e1];decide),?_⟩
 unfold acqS
 rw[if_neg (by rintro(q|q);exact q h;exact q he),if_neg (by rw[e1];decide)]
theorem acq_ok(h:godP k a)(he:grwE S k a=0)(hq2:S.q.headD 1≠2)(hq:S.q.headD 1≠3):acqE S k a=0∧acqO S k a=nam k (S.tab k)∧acqS S k a=({S with q:=S.q.tail}:Wst).put k (grw (S.tab k) (valO S k a)):=by
 have e1:acqE S k a=0:=by unfold acqE;rw[if_neg (fun q=>q h),if_neg (fun q=>q he),if_neg hq2,if_neg hq]
 refine⟨e1,if_pos e1,?_⟩
 unfold acqS
 rw[if_neg (by rintro(q|q);exact q h;exact q he),if_pos e1]
theorem god1(h:0≤a∧a≤65535):godP 1 a:= .inl ⟨rfl,h.1,h.2⟩
theorem god2(h:1≤a∧a≤65536):godP 2 a:= .inr (.inl ⟨rfl,h.1,h.2⟩)
theorem god3(h:1≤a∧a≤1048576):godP 3 a:= .inr (.inr ⟨rfl,h.1,h.2⟩)
theorem god_no1(h: ¬(0≤a∧a≤65535)): ¬godP 1 a:=by unfold godP;omega
theorem god_no2(h: ¬(1≤a∧a≤65536)): ¬godP 2 a:=by unfold godP;omega
theorem god_no3(h: ¬(1≤a∧a≤1048576)): ¬godP 3 a:=by unfold godP;omega
theorem god_no(h:k<1∨3<k): ¬godP k a:=by unfold godP;omega
theorem fre_pos'{X:Xs}(h: ¬fre X=none):0<(inS 0 (As X) 0).length:=by
 rcases Nat.eq_zero_or_pos (inS 0 (As X) 0).length with h0|h0
 · exact absurd (fre_none.2 h0) h
 · exact h0
theorem opn_grw(h:0≤a∧a≤65535):opnE S.F a=grwE S 1 a∧(opnE S.F a=0→opnO S.F a=nam 1 S.F∧opnX S.F a=grw S.F a):=by
 have e:grwE S 1 a=if fre S.F=none then 4 else 0:=by
  unfold grwE
  rw[if_neg (by rintro⟨q,_⟩;exact absurd q dc),if_neg (by rintro⟨q,_⟩;exact absurd q dc)]
  rfl
 rw[e]
 by_cases hf:fre S.F=none
 · rw[if_pos hf]
   have h1:=opn_full (X:=S.F) h (fre_none.1 hf)
   exact⟨h1.2.1,fun q=>absurd (h1.2.1.symm.trans q) dc⟩
 · rw[if_neg hf]
   have hp:=fre_pos (fre_pos' hf)
   have h1:=opn_ok (X:=S.F) (v:=a) h hp
   refine⟨h1.2.1,fun _=>⟨?_,?_⟩⟩
   · rw[h1.1];unfold nam;rw[hp]
   · rw[h1.2.2];unfold grw;rw[hp]
theorem pin_grw(h:1≤a∧a≤65536):pinE S.B a=grwE S 2 a∧(pinE S.B a=0→pinO S.B a=nam 2 S.B∧pinX S.B a=grw S.B a):=by
 refine⟨?_,fun q=>⟨if_pos q,if_pos q⟩⟩
 unfold grwE pinE
 by_cases h1:1048576<used S.B+a
 · rw[if_pos h1,if_pos ⟨rfl,h1⟩]
 · rw[if_neg h1,if_neg (fun q=>h1 q.2),if_neg (by rintro⟨q,_⟩;exact absurd q dc)]
   rfl
theorem gnt_grw(h:1≤a∧a≤1048576):gntE S.D a S.now=grwE S 3 a∧(gntE S.D a S.now=0→gntO S.D a S.now=nam 3 S.D∧gntX S.D a S.now=grw S.D (S.now+a)):=by
 refine⟨?_,fun q=>⟨if_pos q,if_pos q⟩⟩
 have e1: ¬((3:Int)=2∧1048576<used S.B+a):=fun q=>absurd q.1 dc
 by_cases h1:1099511627776-a<S.now
 · exact(if_pos h1:gntE S.D a S.now=17).trans ((if_neg e1).trans (if_pos ⟨rfl,h1⟩)).symm
 · exact(if_neg h1:gntE S.D a S.now=tkE S.D).trans ((if_neg e1).trans (if_neg (fun q=>h1 q.2))).symm
theorem acq_ok1(h:0≤a∧a≤65535)(he:opnE S.F a=0)(hq2:S.q.headD 1≠2)(hq:S.q.headD 1≠3):acqE S 1 a=0∧acqO S 1 a=opnO S.F a∧acqS S 1 a= {S with q:=S.q.tail,F:=opnX S.F a}:=by
 obtain⟨h1,h2⟩:=opn_grw (S:=S) h
 obtain⟨h3,h4⟩:=h2 he
 obtain⟨h5,h6,h7⟩:=acq_ok (S:=S) (god1 h) (h1▸he) hq2 hq
 exact⟨h5,h6.trans h3.symm,h7.trans (by rw[h4];rfl)⟩
theorem acq_ok2(h:1≤a∧a≤65536)(he:pinE S.B a=0)(hq2:S.q.headD 1≠2)(hq:S.q.headD 1≠3):acqE S 2 a=0∧acqO S 2 a=pinO S.B a∧acqS S 2 a= {S with q:=S.q.tail,B:=pinX S.B a}:=by
 obtain⟨h1,h2⟩:=pin_grw (S:=S) h
 obtain⟨h3,h4⟩:=h2 he
 obtain⟨h5,h6,h7⟩:=acq_ok (S:=S) (god2 h) (h1▸he) hq2 hq
 exact⟨h5,h6.trans h3.symm,h7.trans (by rw[h4];rfl)⟩
theorem acq_ok3(h:1≤a∧a≤1048576)(he:gntE S.D a S.now=0)(hq2:S.q.headD 1≠2)(hq:S.q.headD 1≠3):acqE S 3 a=0∧acqO S 3 a=gntO S.D a S.now∧acqS S 3 a= {S with q:=S.q.tail,D:=gntX S.D a S.now}:=by
 obtain⟨h1,h2⟩:=gnt_grw (S:=S) h
 obtain⟨h3,h4⟩:=h2 he
 obtain⟨h5,h6,h7⟩:=acq_ok (S:=S) (god3 h) (h1▸he) hq2 hq
 exact⟨h5,h6.trans h3.symm,h7.trans (by rw[h4];rfl)⟩
theorem rel_arg(h: ¬KGood o∨wy<1∨3<wy):relE S o wy=2∧relA S o wy=0∧relS S o wy=S:=by
 have e:relE S o wy=2:=if_pos h
 exact⟨e,if_neg (by rw[e];decide),if_pos (by rw[e];decide)⟩
theorem rel_none(h:KGood o)(hw:1≤wy∧wy≤3)(hT: ¬Thr S o):relE S o wy=5∧relA S o wy=0∧relS S o wy=S:=by
 have e:relE S o wy=5:=by unfold relE;rw[if_neg (by rintro(q|q);exact q h;omega),if_pos hT]
 exact⟨e,if_neg (by rw[e];decide),if_pos (by rw[e];decide)⟩
theorem rel_full(hw:1≤wy∧wy≤3)(hT:Thr S o)(hn:10000≤S.T.length):relE S o wy=4∧relA S o wy=0∧relS S o wy=S:=by
 have e:relE S o wy=4:=by unfold relE;rw[if_neg (by rintro(q|q);exact q hT.1;omega),if_neg (fun q=>q hT),if_pos hn]
 exact⟨e,if_neg (by rw[e];decide),if_pos (by rw[e];decide)⟩
theorem rel_ok(hw:1≤wy∧wy≤3)(hT:Thr S o)(hn:S.T.length<10000):relE S o wy=0∧relA S o wy=S.q.headD 1∧relS S o wy=if S.q.headD 1=1 then ({S with q:=S.q.tail,T:=S.T++ [⟨S.now,o,wy,S.q.headD 1⟩]}:Wst).put o.1 (giv (S.tab o.1) o) else {S with q:=S.q.tail,T:=S.T++ [⟨S.now,o,wy,S.q.headD 1⟩]}:=by
 have e:relE S o wy=0:=by unfold relE;rw[if_neg (by rintro(q|q);exact q hT.1;omega),if_neg (fun q=>q hT),if_neg om]
 exact⟨e,if_pos e,if_neg (by rw[e];decide)⟩
theorem rel_attP(hW:WOk S)(h:KGood o)(hw:1≤wy∧wy≤3):attP ⟨S.now,o,wy,S.q.headD 1⟩:=by
 have:=headD_bd hW.qb
 exact⟨hW.nl,hW.nh,kgood_iff.2 h,hw.1,hw.2,this.1,this.2⟩
theorem cls_giv(hT:Thr S (1,y,z)):clsX S.F (1,y,z)=giv S.F (1,y,z):=by
 obtain⟨hg,h1⟩:=hT
 have h2:errA (As S.F) (1,y,z)=0:=chk_ok (As S.F) (q:=y.toNat) (s:=(1,z)) rfl hg.2.2.2.1 hg.2.2.2.2 (thr_nat hg) h1 ⟨rfl,rfl⟩
 unfold clsX giv
 rw[if_pos h2]
end
end
theorem god_1y(a:Int)(ha:0≤a∧a≤65535):HQ 269 [iV 1,iV a] [] (.bool true) []:=by
 refine hiS func269 ntmps269 fun g w0 R h0=>go [.v 3 1 (oT (a≥0)),.v 3 4 (oT (a≤65535))] ?_
 exact enR _ [] h0
theorem god_1n(a:Int)(ha:a<0∨65535<a):HQ 269 [iV 1,iV a] [] (.bool false) []:=by
 refine hiS func269 ntmps269 fun g w0 R h0=>go [.s 3 1] ?_
 by_cases c10:a≥0
 ·
  refine go [.v 3 1 (oT _ c10),.v 3 4 (oF (a≤65535))] ?_
  exact enR _ [] h0
 refine go [.v 3 1 (oF _ c10)] ?_
 exact enR _ [] h0
theorem god_2y(a:Int)(ha:1≤a∧a≤65536):HQ 269 [iV 2,iV a] [] (.bool true) []:=by
 refine hiS func269 ntmps269 fun g w0 R h0=>go [.v 5 1 (oT (a≥1)),.v 5 4 (oT (a≤65536))] ?_
 exact enR _ [] h0
theorem god_2n(a:Int)(ha:a<1∨65536<a):HQ 269 [iV 2,iV a] [] (.bool false) []:=by
 refine hiS func269 ntmps269 fun g w0 R h0=>go [.s 5 1] ?_
 by_cases c10:a≥1
 ·
  refine go [.v 5 1 (oT _ c10),.v 5 4 (oF (a≤65536))] ?_
  exact enR _ [] h0
 refine go [.v 5 1 (oF _ c10)] ?_
 exact enR _ [] h0
theorem god_3y(a:Int)(ha:1≤a∧a≤1048576):HQ 269 [iV 3,iV a] [] (.bool true) []:=by
 refine hiS func269 ntmps269 fun g w0 R h0=>g0<|cl0 call285 (ospan_y a om) h0 fun _ h11=>g0 ?_
 exact enR _ [] h11
theorem god_3n(a:Int)(ha:a<1∨1048576<a):HQ 269 [iV 3,iV a] [] (.bool false) []:=by
 refine hiS func269 ntmps269 fun g w0 R h0=>g0 ?_
 by_cases c10:1≤a
 ·
  refine cl0 call285 (ospan_n a om) h0 fun _ h12=>g0 ?_
  exact enR _ [] h12
 refine cl0 call285 (ospan_n a om) h0 fun _ h14=>g0 ?_
 exact enR _ [] h14
theorem god_0(k a:Int)(hk:k<1∨3<k):HQ 269 [iV k,iV a] [] (.bool false) []:=by
 refine hiS func269 ntmps269 fun g w0 R h0=>go [.v 2 0 (qeF k 1),.v 4 0 (qeF k 2),.v 6 0 (qeF k 3)] ?_
 exact enR _ [] h0
theorem grown_1(b f p d s l:Nat)(S:Wst)(hW:WOk S)(a:Int)(ha:0≤a∧a≤65535):HT prog 270 [pV b,iV 1,iV a] [Cl b [Value.nilIface,.iface 179 (pV f),.iface 182 (pV p),.iface 185 (pV d),pV s,pV l,iV S.now] 113,Fd f 64 S.F,Pl p S.B,Dk d S.D,Sr 288 s S.q,Lg l S.T] (fun v K=> ∃c:Nat,v= .tuple #[.iface 179 (pV c),.agg #[iV ((opnO S.F a).1),iV ((opnO S.F a).2.1),uV ((opnO S.F a).2.2)],iV (opnE S.F a)]∧K= [Cl b [Value.nilIface,.iface 179 (pV f),.iface 182 (pV p),.iface 185 (pV d),pV s,pV l,iV S.now] 113,Fd f 64 S.F,Pl p S.B,Dk d S.D,Sr 288 s S.q,Lg l S.T,Fd c 64 (opnX S.F a)]):=by
 refine hiS func270 ntmps270 fun g w0 R h0=> ?_
 have hWn:=hW.nl;have hWm:=hW.nh;have hWt:=hW.tn
 refine g0<|nP 48 [iV 0,iV 0,uV 0] h0 (fun _ _ h12=> ?_)
 refine go [.s 1 4]<|lwP (.pointer (some ⟨b,1,none⟩)) (law_indexArr (x:=Ot 24) (i:=Ot 22) (b:=b) (off:=0) (z:=1) kr underlying110 1 kr 1 kr kr om om 1 om _) ?_
 have h14:=h12.b.t8
 refine go [rd 1 5 1 1 1 h12]<|cP call106 (fcopy_ht f 64 S.F) h14 ?_
 rintro v K _ (⟨b13,rfl,rfl⟩) h16
 have h18:=(ap2 h16).a.t9
 refine g0<|cl1 call344 (fopen_ht b13 64 S.F a) h18 fun _ h20=>g0<|nP 48 [iV 0,iV 0,uV 0] h20 (fun _ _ h23=> ?_)
 refine sA [iV ((opnO S.F a).1),iV ((opnO S.F a).2.1),uV ((opnO S.F a).2.2)] h23 fun _ h25=>g0<|dw (fls [0,1,2,3,4] (Tr.an 5 (Tr.fl 6 Tr.nil))) h25 fun _ h27=>go [.s 6 1]<|lw (.iface 179 (pV b13)) (fun _=>law_mkIface (t:=179) (x:=Ot 38) kr underlying179 rfl (pV b13) kr _) ?_
 have h28:=h27.c.t10
 refine go [rd 6 2 0 0 3 h27]<|sB [iV ((opnO S.F a).1),iV ((opnO S.F a).2.1),uV ((opnO S.F a).2.2)] h28 fun _ h30=>⟨kd [],?_⟩
 refine g0 ?_
 exact en (.tuple #[.iface 179 (pV b13),.agg #[iV ((opnO S.F a).1),iV ((opnO S.F a).2.1),uV ((opnO S.F a).2.2)],iV (opnE S.F a)]) [rd 0 0 0 0 3 h30] ⟨_,_,rfl,⟨b13,rfl,rfl⟩,(tk8 (sf7 (sf7 (sf7 (sf7 (sf7 (sf7 (sf7 (sf9 h30.b.h.h.h.h.x.h.t10)))))))))⟩
theorem grown_2(b f p d s l:Nat)(S:Wst)(hW:WOk S)(a:Int)(ha:1≤a∧a≤65536):HT prog 270 [pV b,iV 2,iV a] [Cl b [Value.nilIface,.iface 179 (pV f),.iface 182 (pV p),.iface 185 (pV d),pV s,pV l,iV S.now] 113,Fd f 64 S.F,Pl p S.B,Dk d S.D,Sr 288 s S.q,Lg l S.T] (fun v K=> ∃c:Nat,v= .tuple #[.iface 182 (pV c),.agg #[iV ((pinO S.B a).1),iV ((pinO S.B a).2.1),uV ((pinO S.B a).2.2)],iV (pinE S.B a)]∧K= [Cl b [Value.nilIface,.iface 179 (pV f),.iface 182 (pV p),.iface 185 (pV d),pV s,pV l,iV S.now] 113,Fd f 64 S.F,Pl p S.B,Dk d S.D,Sr 288 s S.q,Lg l S.T,Pl c (pinX S.B a)]):=by
 refine hiS func270 ntmps270 fun g w0 R h0=> ?_
 have hWn:=hW.nl;have hWm:=hW.nh;have hWt:=hW.tn
 refine g0<|nP 48 [iV 0,iV 0,uV 0] h0 (fun _ _ h12=> ?_)
 refine go [.s 1 4]<|lwP (.pointer (some ⟨b,2,none⟩)) (law_indexArr (x:=Ot 24) (i:=Ot 22) (b:=b) (off:=0) (z:=2) kr underlying110 1 kr 2 kr kr om om 2 om _) ?_
 have h14:=h12.c.t8
 refine go [rd 1 5 1 2 1 h12]<|cP call107 (pcopy_ht p S.B) h14 ?_
 rintro v K _ (⟨b13,rfl,rfl⟩) h16
 have h18:=(ap2 h16).a.t9
 refine g0<|cl1 call345 (pin_ht b13 S.B a om) h18 fun _ h20=>g0<|nP 48 [iV 0,iV 0,uV 0] h20 (fun _ _ h23=> ?_)
 refine sA [iV ((pinO S.B a).1),iV ((pinO S.B a).2.1),uV ((pinO S.B a).2.2)] h23 fun _ h25=>g0<|dw (fls [0,1,2,3,4] (Tr.an 5 (Tr.fl 6 Tr.nil))) h25 fun _ h27=>go [.s 11 1]<|lw (.iface 182 (pV b13)) (fun _=>law_mkIface (t:=182) (x:=Ot 53) kr underlying182 rfl (pV b13) kr _) ?_
 have h28:=h27.c.t10
 refine go [rd 11 2 0 0 3 h27]<|sB [iV ((pinO S.B a).1),iV ((pinO S.B a).2.1),uV ((pinO S.B a).2.2)] h28 fun _ h30=>⟨kd [],?_⟩
 refine g0 ?_
 exact en (.tuple #[.iface 182 (pV b13),.agg #[iV ((pinO S.B a).1),iV ((pinO S.B a).2.1),uV ((pinO S.B a).2.2)],iV (pinE S.B a)]) [rd 0 0 0 0 3 h30] ⟨_,_,rfl,⟨b13,rfl,rfl⟩,(tk8 (sf7 (sf7 (sf7 (sf7 (sf7 (sf7 (sf7 (sf9 h30.b.h.h.h.f.h.h.t10)))))))))⟩
theorem grown_3(b f p d s l:Nat)(S:Wst)(hW:WOk S)(a:Int)(ha:1≤a∧a≤1048576):HT prog 270 [pV b,iV 3,iV a] [Cl b [Value.nilIface,.iface 179 (pV f),.iface 182 (pV p),.iface 185 (pV d),pV s,pV l,iV S.now] 113,Fd f 64 S.F,Pl p S.B,Dk d S.D,Sr 288 s S.q,Lg l S.T] (fun v K=> ∃c:Nat,v= .tuple #[.iface 185 (pV c),.agg #[iV ((gntO S.D a S.now).1),iV ((gntO S.D a S.now).2.1),uV ((gntO S.D a S.now).2.2)],iV (gntE S.D a S.now)]∧K= [Cl b [Value.nilIface,.iface 179 (pV f),.iface 182 (pV p),.iface 185 (pV d),pV s,pV l,iV S.now] 113,Fd f 64 S.F,Pl p S.B,Dk d S.D,Sr 288 s S.q,Lg l S.T,Dk c (gntX S.D a S.now)]):=by
 refine hiS func270 ntmps270 fun g w0 R h0=> ?_
 have hWn:=hW.nl;have hWm:=hW.nh;have hWt:=hW.tn
 refine g0<|nP 48 [iV 0,iV 0,uV 0] h0 (fun _ _ h12=> ?_)
 refine go [.s 1 4]<|lwP (.pointer (some ⟨b,3,none⟩)) (law_indexArr (x:=Ot 24) (i:=Ot 22) (b:=b) (off:=0) (z:=3) kr underlying110 1 kr 3 kr kr om om 3 om _) ?_
 have h14:=h12.d.t8
 refine go [rd 1 5 1 3 1 h12]<|cP call108 (lcopy_ht d S.D) h14 ?_
 rintro v K _ (⟨b13,rfl,rfl⟩) h16
 have h17:=ap2 h16
 have h18:=h17.a.t9
 refine go [rd 15 5 3 6 1 h17]<|cl1 call346 (grant_ht b13 S.D a S.now om om) h18 fun _ h20=>g0<|nP 48 [iV 0,iV 0,uV 0] h20 (fun _ _ h23=> ?_)
 refine sA [iV ((gntO S.D a S.now).1),iV ((gntO S.D a S.now).2.1),uV ((gntO S.D a S.now).2.2)] h23 fun _ h25=>g0<|dw (fls [0,1,2,3,4] (Tr.an 5 (Tr.fl 6 Tr.nil))) h25 fun _ h27=>go [.s 16 1]<|lw (.iface 185 (pV b13)) (fun _=>law_mkIface (t:=185) (x:=Ot 72) kr underlying185 rfl (pV b13) kr _) ?_
 have h28:=h27.c.t10
 refine go [rd 16 2 0 0 3 h27]<|sB [iV ((gntO S.D a S.now).1),iV ((gntO S.D a S.now).2.1),uV ((gntO S.D a S.now).2.2)] h28 fun _ h30=>⟨kd [],?_⟩
 refine g0 ?_
 exact en (.tuple #[.iface 185 (pV b13),.agg #[iV ((gntO S.D a S.now).1),iV ((gntO S.D a S.now).2.1),uV ((gntO S.D a S.now).2.2)],iV (gntE S.D a S.now)]) [rd 0 0 0 0 3 h30] ⟨_,_,rfl,⟨b13,rfl,rfl⟩,(tk8 (sf7 (sf7 (sf7 (sf7 (sf7 (sf7 (sf7 (sf9 h30.b.h.h.e.h.h.h.t10)))))))))⟩
theorem wacq_1(b:Nat)(S:Wst)(a:Int)(ha:0≤a∧a≤65535):HQ 202 [pV b,iV 1,iV a] [Wd b S] (.tuple #[.agg #[iV (acqO S 1 a).1,iV (acqO S 1 a).2.1,uV (acqO S 1 a).2.2],iV (acqE S 1 a)]) [Wd b (acqS S 1 a)]:=by
 refine hiS func202 ntmps202 fun g w0 R h0=> ?_
 obtain⟨f10,p11,d12,s13,l14,hW15,h16⟩:=wd_open h0
 have hW15n:=hW15.nl;have hW15m:=hW15.nh;have hW15t:=hW15.tn
 refine g0<|nP 48 [iV 0,iV 0,uV 0] h16 (fun r17 _ h19=> ?_)
 have h20:=h19.a.t8
 refine g0<|cl1 call40 (wvalid_cl b l14 Value.nilIface (.iface 179 (pV f10)) (.iface 182 (pV p11)) (.iface 185 (pV d12)) (pV s13) (iV S.now)) h20 fun _ h22=>g0<|cl0 call269 (god_1y a om) h22 fun _ h24=> ?_
 have h26:=h24.f.f.f.f.f.e.t8
 refine g0<|cP call270 (grown_1 b f10 p11 d12 s13 l14 S hW15 a om) h26 ?_
 rintro v K _ (⟨c25,rfl,rfl⟩) h28
 have h29:=ap7 h28
 refine g0<|nP 48 [iV 0,iV 0,uV 0] h29 (fun r30 _ h32=> ?_)
 refine g0<|sA [iV ((opnO S.F a).1),iV ((opnO S.F a).2.1),uV ((opnO S.F a).2.2)] h32 fun _ h34=>go [.s 6 1] ?_
 by_cases c35:(opnE S.F a)=0
 ·
  have h36:=h34.e.t10
  refine go [.v 6 1 (qnF (opnE S.F a) 0),rd 8 3 1 4 1 h34]<|cl1 call271 (next_ht s13 S.q) h36 fun _ h38=>go [.s 9 0] ?_
  by_cases c39:(S.q.headD 1)=2
  ·
   have h40:=h38.h.t10
   refine go [.v 9 0 (qeT _ _ c39)]<|sA [iV 0,iV 0,uV 0] h40 fun w41 h42=>g0 ?_
   have hp_:=acq_later (S:=S) (god1 ha) ((opn_grw (S:=S) ha).1.symm.trans om) om
   have h43:=h42.x.b.x.x.x.x.t10
   have h44:sat g _ (Wd b ({S with q:=S.q.tail}:Wst)::_):=wd_close (hp_.2.2▸wok_acq hW15 1 a) h43
   exact en (.tuple #[.agg #[iV 0,iV 0,uV 0],iV 15]) [rd 0 0 0 0 3 h42] ⟨_,[Wd b ({S with q:=S.q.tail}:Wst)],rfl,⟨by rw[hp_.1,hp_.2.1],by rw[hp_.2.2]⟩,h44.d.a.t2⟩
  refine go [.v 9 0 (qeF _ _ c39),.s 11 0] ?_
  by_cases c46:(S.q.headD 1)=3
  ·
   have h47:=h38.h.t10
   refine go [.v 11 0 (qeT _ _ c46)]<|sA [iV 0,iV 0,uV 0] h47 fun w48 h49=>g0 ?_
   have hp_:=acq_fail (S:=S) (god1 ha) ((opn_grw (S:=S) ha).1.symm.trans om) om om
   have h50:=h49.x.b.x.x.x.x.t10
   have h51:sat g _ (Wd b ({S with q:=S.q.tail}:Wst)::_):=wd_close (hp_.2.2▸wok_acq hW15 1 a) h50
   exact en (.tuple #[.agg #[iV 0,iV 0,uV 0],iV 14]) [rd 0 0 0 0 3 h49] ⟨_,[Wd b ({S with q:=S.q.tail}:Wst)],rfl,⟨by rw[hp_.1,hp_.2.1],by rw[hp_.2.2]⟩,h51.d.a.t2⟩
  refine go [.v 11 0 (qeF _ _ c46),.s 13 5]<|lwP (.pointer (some ⟨b,1,none⟩)) (law_indexArr (x:=Ot 49) (i:=Ot 46) (b:=b) (off:=0) (z:=1) kr underlying110 1 kr 1 kr kr om om 1 om _)<|sP [(1,.iface 179 (pV c25))] [Value.nilIface,.iface 179 (pV c25),.iface 182 (pV p11),.iface 185 (pV d12),pV s13,pV l14,iV S.now] h38.b.t10 fun _ h55=> ?_
  have h56:=h55.h.t10
  refine go [rd 14 0 2 0 3 h55]<|sA [iV ((opnO S.F a).1),iV ((opnO S.F a).2.1),uV ((opnO S.F a).2.2)] h56 fun w57 h58=>g0 ?_
  have hp_:=acq_ok1 (S:=S) ha om om om
  have h59:=h58.x.c.x.x.h.f.t10
  have h60:sat g _ (Wd b ({S with q:=S.q.tail,F:=opnX S.F a}:Wst)::_):=wd_close (hp_.2.2▸wok_acq hW15 1 a) h59
  exact en (.tuple #[.agg #[iV ((opnO S.F a).1),iV ((opnO S.F a).2.1),uV ((opnO S.F a).2.2)],iV 0]) [rd 0 0 0 0 3 h58] ⟨_,[Wd b ({S with q:=S.q.tail,F:=opnX S.F a}:Wst)],rfl,⟨by rw[hp_.1,hp_.2.1],by rw[hp_.2.2]⟩,h60.d.a.t2⟩
 have h62:=h34.h.t10
 refine go [.v 6 1 (qnT (opnE S.F a) 0)]<|sA [iV 0,iV 0,uV 0] h62 fun w63 h64=>g0 ?_
 have hp_:=acq_err (S:=S) (god1 ha) (opn_grw (S:=S) ha).1.symm om
 have h66:sat g _ (Wd b S::_):=wd_close hW15 h64.x.x.x.x.x.x.t10
 exact en (.tuple #[.agg #[iV 0,iV 0,uV 0],iV (opnE S.F a)]) [rd 0 0 0 0 3 h64] ⟨_,[Wd b S],rfl,⟨by rw[hp_.1,hp_.2.1],by rw[hp_.2.2]⟩,h66.d.a.t2⟩
theorem wacq_1n(b:Nat)(S:Wst)(a:Int)(ha:a<0∨65535<a)(hng: ¬godP 1 a):HQ 202 [pV b,iV 1,iV a] [Wd b S] (.tuple #[.agg #[iV (acqO S 1 a).1,iV (acqO S 1 a).2.1,uV (acqO S 1 a).2.2],iV (acqE S 1 a)]) [Wd b (acqS S 1 a)]:=by
 refine hiS func202 ntmps202 fun g w0 R h0=> ?_
 obtain⟨f10,p11,d12,s13,l14,hW15,h16⟩:=wd_open h0
 have hW15n:=hW15.nl;have hW15m:=hW15.nh;have hW15t:=hW15.tn
 refine g0<|nP 48 [iV 0,iV 0,uV 0] h16 (fun r17 _ h19=> ?_)
 have h20:=h19.a.t8
 refine g0<|cl1 call40 (wvalid_cl b l14 Value.nilIface (.iface 179 (pV f10)) (.iface 182 (pV p11)) (.iface 185 (pV d12)) (pV s13) (iV S.now)) h20 fun _ h22=>g0 ?_
 by_cases c23:0≤a
 ·
  refine cl0 call269 (god_1n a om) h22 fun _ h25=> ?_
  have h26:=h25.a.t8
  refine g0<|sA [iV 0,iV 0,uV 0] h26 fun w27 h28=>g0 ?_
  have hp_:=acq_arg (S:=S) (k:=1) (a:=a) hng
  have h30:sat g _ (Wd b S::_):=wd_close hW15 h28.f.f.f.f.f.f.t8
  exact en (.tuple #[.agg #[iV 0,iV 0,uV 0],iV 2]) [rd 0 0 0 0 3 h28] ⟨_,[Wd b S],rfl,⟨by rw[hp_.1,hp_.2.1],by rw[hp_.2.2]⟩,h30.B.t2⟩
 refine cl0 call269 (god_1n a om) h22 fun _ h33=> ?_
 have h34:=h33.a.t8
 refine g0<|sA [iV 0,iV 0,uV 0] h34 fun w35 h36=>g0 ?_
 have hp_:=acq_arg (S:=S) (k:=1) (a:=a) hng
 have h38:sat g _ (Wd b S::_):=wd_close hW15 h36.f.f.f.f.f.f.t8
 exact en (.tuple #[.agg #[iV 0,iV 0,uV 0],iV 2]) [rd 0 0 0 0 3 h36] ⟨_,[Wd b S],rfl,⟨by rw[hp_.1,hp_.2.1],by rw[hp_.2.2]⟩,h38.B.t2⟩
theorem wacq_2(b:Nat)(S:Wst)(a:Int)(ha:1≤a∧a≤65536):HQ 202 [pV b,iV 2,iV a] [Wd b S] (.tuple #[.agg #[iV (acqO S 2 a).1,iV (acqO S 2 a).2.1,uV (acqO S 2 a).2.2],iV (acqE S 2 a)]) [Wd b (acqS S 2 a)]:=by
 refine hiS func202 ntmps202 fun g w0 R h0=> ?_
 obtain⟨f10,p11,d12,s13,l14,hW15,h16⟩:=wd_open h0
 have hW15n:=hW15.nl;have hW15m:=hW15.nh;have hW15t:=hW15.tn
 refine g0<|nP 48 [iV 0,iV 0,uV 0] h16 (fun r17 _ h19=> ?_)
 have h20:=h19.a.t8
 refine g0<|cl1 call40 (wvalid_cl b l14 Value.nilIface (.iface 179 (pV f10)) (.iface 182 (pV p11)) (.iface 185 (pV d12)) (pV s13) (iV S.now)) h20 fun _ h22=>g0<|cl0 call269 (god_2y a om) h22 fun _ h24=> ?_
 have h26:=h24.f.f.f.f.f.e.t8
 refine g0<|cP call270 (grown_2 b f10 p11 d12 s13 l14 S hW15 a om) h26 ?_
 rintro v K _ (⟨c25,rfl,rfl⟩) h28
 have h29:=ap7 h28
 refine g0<|nP 48 [iV 0,iV 0,uV 0] h29 (fun r30 _ h32=> ?_)
 refine g0<|sA [iV ((pinO S.B a).1),iV ((pinO S.B a).2.1),uV ((pinO S.B a).2.2)] h32 fun _ h34=>go [.s 6 1] ?_
 by_cases c35:(pinE S.B a)=0
 ·
  have h36:=h34.e.t10
  refine go [.v 6 1 (qnF (pinE S.B a) 0),rd 8 3 1 4 1 h34]<|cl1 call271 (next_ht s13 S.q) h36 fun _ h38=>go [.s 9 0] ?_
  by_cases c39:(S.q.headD 1)=2
  ·
   have h40:=h38.h.t10
   refine go [.v 9 0 (qeT _ _ c39)]<|sA [iV 0,iV 0,uV 0] h40 fun w41 h42=>g0 ?_
   have hp_:=acq_later (S:=S) (god2 ha) ((pin_grw (S:=S) ha).1.symm.trans om) om
   have h43:=h42.x.b.x.x.x.x.t10
   have h44:sat g _ (Wd b ({S with q:=S.q.tail}:Wst)::_):=wd_close (hp_.2.2▸wok_acq hW15 2 a) h43
   exact en (.tuple #[.agg #[iV 0,iV 0,uV 0],iV 15]) [rd 0 0 0 0 3 h42] ⟨_,[Wd b ({S with q:=S.q.tail}:Wst)],rfl,⟨by rw[hp_.1,hp_.2.1],by rw[hp_.2.2]⟩,h44.d.a.t2⟩
  refine go [.v 9 0 (qeF _ _ c39),.s 11 0] ?_
  by_cases c46:(S.q.headD 1)=3
  ·
   have h47:=h38.h.t10
   refine go [.v 11 0 (qeT _ _ c46)]<|sA [iV 0,iV 0,uV 0] h47 fun w48 h49=>g0 ?_
   have hp_:=acq_fail (S:=S) (god2 ha) ((pin_grw (S:=S) ha).1.symm.trans om) om om
   have h50:=h49.x.b.x.x.x.x.t10
   have h51:sat g _ (Wd b ({S with q:=S.q.tail}:Wst)::_):=wd_close (hp_.2.2▸wok_acq hW15 2 a) h50
   exact en (.tuple #[.agg #[iV 0,iV 0,uV 0],iV 14]) [rd 0 0 0 0 3 h49] ⟨_,[Wd b ({S with q:=S.q.tail}:Wst)],rfl,⟨by rw[hp_.1,hp_.2.1],by rw[hp_.2.2]⟩,h51.d.a.t2⟩
  refine go [.v 11 0 (qeF _ _ c46),.s 13 5]<|lwP (.pointer (some ⟨b,2,none⟩)) (law_indexArr (x:=Ot 49) (i:=Ot 46) (b:=b) (off:=0) (z:=2) kr underlying110 1 kr 2 kr kr om om 2 om _)<|sP [(2,.iface 182 (pV c25))] [Value.nilIface,.iface 179 (pV f10),.iface 182 (pV c25),.iface 185 (pV d12),pV s13,pV l14,iV S.now] h38.b.t10 fun _ h55=> ?_
  have h56:=h55.h.t10
  refine go [rd 14 0 2 0 3 h55]<|sA [iV ((pinO S.B a).1),iV ((pinO S.B a).2.1),uV ((pinO S.B a).2.2)] h56 fun w57 h58=>g0 ?_
  have hp_:=acq_ok2 (S:=S) ha om om om
  have h59:=h58.x.c.x.h.x.f.t10
  have h60:sat g _ (Wd b ({S with q:=S.q.tail,B:=pinX S.B a}:Wst)::_):=wd_close (hp_.2.2▸wok_acq hW15 2 a) h59
  exact en (.tuple #[.agg #[iV ((pinO S.B a).1),iV ((pinO S.B a).2.1),uV ((pinO S.B a).2.2)],iV 0]) [rd 0 0 0 0 3 h58] ⟨_,[Wd b ({S with q:=S.q.tail,B:=pinX S.B a}:Wst)],rfl,⟨by rw[hp_.1,hp_.2.1],by rw[hp_.2.2]⟩,h60.d.a.t2⟩
 have h62:=h34.h.t10
 refine go [.v 6 1 (qnT (pinE S.B a) 0)]<|sA [iV 0,iV 0,uV 0] h62 fun w63 h64=>g0 ?_
 have hp_:=acq_err (S:=S) (god2 ha) (pin_grw (S:=S) ha).1.symm om
 have h66:sat g _ (Wd b S::_):=wd_close hW15 h64.x.x.x.x.x.x.t10
 exact en (.tuple #[.agg #[iV 0,iV 0,uV 0],iV (pinE S.B a)]) [rd 0 0 0 0 3 h64] ⟨_,[Wd b S],rfl,⟨by rw[hp_.1,hp_.2.1],by rw[hp_.2.2]⟩,h66.d.a.t2⟩
theorem wacq_2n(b:Nat)(S:Wst)(a:Int)(ha:a<1∨65536<a)(hng: ¬godP 2 a):HQ 202 [pV b,iV 2,iV a] [Wd b S] (.tuple #[.agg #[iV (acqO S 2 a).1,iV (acqO S 2 a).2.1,uV (acqO S 2 a).2.2],iV (acqE S 2 a)]) [Wd b (acqS S 2 a)]:=by
 refine hiS func202 ntmps202 fun g w0 R h0=> ?_
 obtain⟨f10,p11,d12,s13,l14,hW15,h16⟩:=wd_open h0
 have hW15n:=hW15.nl;have hW15m:=hW15.nh;have hW15t:=hW15.tn
 refine g0<|nP 48 [iV 0,iV 0,uV 0] h16 (fun r17 _ h19=> ?_)
 have h20:=h19.a.t8
 refine g0<|cl1 call40 (wvalid_cl b l14 Value.nilIface (.iface 179 (pV f10)) (.iface 182 (pV p11)) (.iface 185 (pV d12)) (pV s13) (iV S.now)) h20 fun _ h22=>g0 ?_
 by_cases c23:1≤a
 ·
  refine cl0 call269 (god_2n a om) h22 fun _ h25=> ?_
  have h26:=h25.a.t8
  refine g0<|sA [iV 0,iV 0,uV 0] h26 fun w27 h28=>g0 ?_
  have hp_:=acq_arg (S:=S) (k:=2) (a:=a) hng
  have h30:sat g _ (Wd b S::_):=wd_close hW15 h28.f.f.f.f.f.f.t8
  exact en (.tuple #[.agg #[iV 0,iV 0,uV 0],iV 2]) [rd 0 0 0 0 3 h28] ⟨_,[Wd b S],rfl,⟨by rw[hp_.1,hp_.2.1],by rw[hp_.2.2]⟩,h30.B.t2⟩
 refine cl0 call269 (god_2n a om) h22 fun _ h33=> ?_
 have h34:=h33.a.t8
 refine g0<|sA [iV 0,iV 0,uV 0] h34 fun w35 h36=>g0 ?_
 have hp_:=acq_arg (S:=S) (k:=2) (a:=a) hng
 have h38:sat g _ (Wd b S::_):=wd_close hW15 h36.f.f.f.f.f.f.t8
 exact en (.tuple #[.agg #[iV 0,iV 0,uV 0],iV 2]) [rd 0 0 0 0 3 h36] ⟨_,[Wd b S],rfl,⟨by rw[hp_.1,hp_.2.1],by rw[hp_.2.2]⟩,h38.B.t2⟩
theorem wacq_3(b:Nat)(S:Wst)(a:Int)(ha:1≤a∧a≤1048576):HQ 202 [pV b,iV 3,iV a] [Wd b S] (.tuple #[.agg #[iV (acqO S 3 a).1,iV (acqO S 3 a).2.1,uV (acqO S 3 a).2.2],iV (acqE S 3 a)]) [Wd b (acqS S 3 a)]:=by
 refine hiS func202 ntmps202 fun g w0 R h0=> ?_
 obtain⟨f10,p11,d12,s13,l14,hW15,h16⟩:=wd_open h0
 have hW15n:=hW15.nl;have hW15m:=hW15.nh;have hW15t:=hW15.tn
 refine g0<|nP 48 [iV 0,iV 0,uV 0] h16 (fun r17 _ h19=> ?_)
 have h20:=h19.a.t8
 refine g0<|cl1 call40 (wvalid_cl b l14 Value.nilIface (.iface 179 (pV f10)) (.iface 182 (pV p11)) (.iface 185 (pV d12)) (pV s13) (iV S.now)) h20 fun _ h22=>g0<|cl0 call269 (god_3y a om) h22 fun _ h24=> ?_
 have h26:=h24.f.f.f.f.f.e.t8
 refine g0<|cP call270 (grown_3 b f10 p11 d12 s13 l14 S hW15 a om) h26 ?_
 rintro v K _ (⟨c25,rfl,rfl⟩) h28
 have h29:=ap7 h28
 refine g0<|nP 48 [iV 0,iV 0,uV 0] h29 (fun r30 _ h32=> ?_)
 refine g0<|sA [iV ((gntO S.D a S.now).1),iV ((gntO S.D a S.now).2.1),uV ((gntO S.D a S.now).2.2)] h32 fun _ h34=>go [.s 6 1] ?_
 by_cases c35:(gntE S.D a S.now)=0
 ·
  have h36:=h34.e.t10
  refine go [.v 6 1 (qnF (gntE S.D a S.now) 0),rd 8 3 1 4 1 h34]<|cl1 call271 (next_ht s13 S.q) h36 fun _ h38=>go [.s 9 0] ?_
  by_cases c39:(S.q.headD 1)=2
  ·
   have h40:=h38.h.t10
   refine go [.v 9 0 (qeT _ _ c39)]<|sA [iV 0,iV 0,uV 0] h40 fun w41 h42=>g0 ?_
   have hp_:=acq_later (S:=S) (god3 ha) ((gnt_grw (S:=S) ha).1.symm.trans om) om
   have h43:=h42.x.b.x.x.x.x.t10
   have h44:sat g _ (Wd b ({S with q:=S.q.tail}:Wst)::_):=wd_close (hp_.2.2▸wok_acq hW15 3 a) h43
   exact en (.tuple #[.agg #[iV 0,iV 0,uV 0],iV 15]) [rd 0 0 0 0 3 h42] ⟨_,[Wd b ({S with q:=S.q.tail}:Wst)],rfl,⟨by rw[hp_.1,hp_.2.1],by rw[hp_.2.2]⟩,h44.d.a.t2⟩
  refine go [.v 9 0 (qeF _ _ c39),.s 11 0] ?_
  by_cases c46:(S.q.headD 1)=3
  ·
   have h47:=h38.h.t10
   refine go [.v 11 0 (qeT _ _ c46)]<|sA [iV 0,iV 0,uV 0] h47 fun w48 h49=>g0 ?_
   have hp_:=acq_fail (S:=S) (god3 ha) ((gnt_grw (S:=S) ha).1.symm.trans om) om om
   have h50:=h49.x.b.x.x.x.x.t10
   have h51:sat g _ (Wd b ({S with q:=S.q.tail}:Wst)::_):=wd_close (hp_.2.2▸wok_acq hW15 3 a) h50
   exact en (.tuple #[.agg #[iV 0,iV 0,uV 0],iV 14]) [rd 0 0 0 0 3 h49] ⟨_,[Wd b ({S with q:=S.q.tail}:Wst)],rfl,⟨by rw[hp_.1,hp_.2.1],by rw[hp_.2.2]⟩,h51.d.a.t2⟩
  refine go [.v 11 0 (qeF _ _ c46),.s 13 5]<|lwP (.pointer (some ⟨b,3,none⟩)) (law_indexArr (x:=Ot 49) (i:=Ot 46) (b:=b) (off:=0) (z:=3) kr underlying110 1 kr 3 kr kr om om 3 om _)<|sP [(3,.iface 185 (pV c25))] [Value.nilIface,.iface 179 (pV f10),.iface 182 (pV p11),.iface 185 (pV c25),pV s13,pV l14,iV S.now] h38.b.t10 fun _ h55=> ?_
  have h56:=h55.h.t10
  refine go [rd 14 0 2 0 3 h55]<|sA [iV ((gntO S.D a S.now).1),iV ((gntO S.D a S.now).2.1),uV ((gntO S.D a S.now).2.2)] h56 fun w57 h58=>g0 ?_
  have hp_:=acq_ok3 (S:=S) ha om om om
  have h59:=h58.x.c.h.x.x.f.t10
  have h60:sat g _ (Wd b ({S with q:=S.q.tail,D:=gntX S.D a S.now}:Wst)::_):=wd_close (hp_.2.2▸wok_acq hW15 3 a) h59
  exact en (.tuple #[.agg #[iV ((gntO S.D a S.now).1),iV ((gntO S.D a S.now).2.1),uV ((gntO S.D a S.now).2.2)],iV 0]) [rd 0 0 0 0 3 h58] ⟨_,[Wd b ({S with q:=S.q.tail,D:=gntX S.D a S.now}:Wst)],rfl,⟨by rw[hp_.1,hp_.2.1],by rw[hp_.2.2]⟩,h60.d.a.t2⟩
 have h62:=h34.h.t10
 refine go [.v 6 1 (qnT (gntE S.D a S.now) 0)]<|sA [iV 0,iV 0,uV 0] h62 fun w63 h64=>g0 ?_
 have hp_:=acq_err (S:=S) (god3 ha) (gnt_grw (S:=S) ha).1.symm om
 have h66:sat g _ (Wd b S::_):=wd_close hW15 h64.x.x.x.x.x.x.t10
 exact en (.tuple #[.agg #[iV 0,iV 0,uV 0],iV (gntE S.D a S.now)]) [rd 0 0 0 0 3 h64] ⟨_,[Wd b S],rfl,⟨by rw[hp_.1,hp_.2.1],by rw[hp_.2.2]⟩,h66.d.a.t2⟩
theorem wacq_3n(b:Nat)(S:Wst)(a:Int)(ha:a<1∨1048576<a)(hng: ¬godP 3 a):HQ 202 [pV b,iV 3,iV a] [Wd b S] (.tuple #[.agg #[iV (acqO S 3 a).1,iV (acqO S 3 a).2.1,uV (acqO S 3 a).2.2],iV (acqE S 3 a)]) [Wd b (acqS S 3 a)]:=by
 refine hiS func202 ntmps202 fun g w0 R h0=> ?_
 obtain⟨f10,p11,d12,s13,l14,hW15,h16⟩:=wd_open h0
 have hW15n:=hW15.nl;have hW15m:=hW15.nh;have hW15t:=hW15.tn
 refine g0<|nP 48 [iV 0,iV 0,uV 0] h16 (fun r17 _ h19=> ?_)
 have h20:=h19.a.t8
 refine g0<|cl1 call40 (wvalid_cl b l14 Value.nilIface (.iface 179 (pV f10)) (.iface 182 (pV p11)) (.iface 185 (pV d12)) (pV s13) (iV S.now)) h20 fun _ h22=>g0 ?_
 by_cases c23:1≤a
 ·
  refine cl0 call269 (god_3n a om) h22 fun _ h25=> ?_
  have h26:=h25.a.t8
  refine g0<|sA [iV 0,iV 0,uV 0] h26 fun w27 h28=>g0 ?_
  have hp_:=acq_arg (S:=S) (k:=3) (a:=a) hng
  have h30:sat g _ (Wd b S::_):=wd_close hW15 h28.f.f.f.f.f.f.t8
  exact en (.tuple #[.agg #[iV 0,iV 0,uV 0],iV 2]) [rd 0 0 0 0 3 h28] ⟨_,[Wd b S],rfl,⟨by rw[hp_.1,hp_.2.1],by rw[hp_.2.2]⟩,h30.B.t2⟩
 refine cl0 call269 (god_3n a om) h22 fun _ h33=> ?_
 have h34:=h33.a.t8
 refine g0<|sA [iV 0,iV 0,uV 0] h34 fun w35 h36=>g0 ?_
 have hp_:=acq_arg (S:=S) (k:=3) (a:=a) hng
 have h38:sat g _ (Wd b S::_):=wd_close hW15 h36.f.f.f.f.f.f.t8
 exact en (.tuple #[.agg #[iV 0,iV 0,uV 0],iV 2]) [rd 0 0 0 0 3 h36] ⟨_,[Wd b S],rfl,⟨by rw[hp_.1,hp_.2.1],by rw[hp_.2.2]⟩,h38.B.t2⟩
theorem wacq_0(b:Nat)(S:Wst)(k a:Int)(hk:k<1∨3<k)(hng: ¬godP k a):HQ 202 [pV b,iV k,iV a] [Wd b S] (.tuple #[.agg #[iV (acqO S k a).1,iV (acqO S k a).2.1,uV (acqO S k a).2.2],iV (acqE S k a)]) [Wd b (acqS S k a)]:=by
 refine hiS func202 ntmps202 fun g w0 R h0=> ?_
 obtain⟨f10,p11,d12,s13,l14,hW15,h16⟩:=wd_open h0
 have hW15n:=hW15.nl;have hW15m:=hW15.nh;have hW15t:=hW15.tn
 refine g0<|nP 48 [iV 0,iV 0,uV 0] h16 (fun r17 _ h19=> ?_)
 have h20:=h19.a.t8
 refine g0<|cl1 call40 (wvalid_cl b l14 Value.nilIface (.iface 179 (pV f10)) (.iface 182 (pV p11)) (.iface 185 (pV d12)) (pV s13) (iV S.now)) h20 fun _ h22=>g0<|cl0 call269 (god_0 k a om) h22 fun _ h24=> ?_
 have h25:=h24.a.t8
 refine g0<|sA [iV 0,iV 0,uV 0] h25 fun w26 h27=>g0 ?_
 have hp_:=acq_arg (S:=S) (k:=k) (a:=a) hng
 have h29:sat g _ (Wd b S::_):=wd_close hW15 h27.f.f.f.f.f.f.t8
 exact en (.tuple #[.agg #[iV 0,iV 0,uV 0],iV 2]) [rd 0 0 0 0 3 h27] ⟨_,[Wd b S],rfl,⟨by rw[hp_.1,hp_.2.1],by rw[hp_.2.2]⟩,h29.B.t2⟩
theorem wacq_ht(b:Nat)(S:Wst)(k a:Int):HQ 202 [pV b,iV k,iV a] [Wd b S] (Value.tuple #[Value.agg #[Value.int .i64 (acqO S k a).1,Value.int .i64 (acqO S k a).2.1,Value.int .u32 (acqO S k a).2.2],Value.int .i64 (acqE S k a)]) [Wd b (acqS S k a)]:=by
 by_cases h1:k=1
 · subst h1
   by_cases h:0≤a∧a≤65535
   · exact wacq_1 b S a h
   · exact wacq_1n b S a om (god_no1 h)
 · by_cases h2:k=2
   · subst h2
     by_cases h:1≤a∧a≤65536
     · exact wacq_2 b S a h
     · exact wacq_2n b S a om (god_no2 h)
   · by_cases h3:k=3
     · subst h3
       by_cases h:1≤a∧a≤1048576
       · exact wacq_3 b S a h
       · exact wacq_3n b S a om (god_no3 h)
     · exact wacq_0 b S k a om (god_no om)
theorem back_1(b f p d s l:Nat)(z0:Int):HQ 420 [pV b,iV 1] [Cl b [Value.nilIface,.iface 179 (pV f),.iface 182 (pV p),.iface 185 (pV d),pV s,pV l,iV z0] 113] (.func (Fn.func 452) #[pV f] #[]) [Cl b [Value.nilIface,.iface 179 (pV f),.iface 182 (pV p),.iface 185 (pV d),pV s,pV l,iV z0] 113]:=by
 refine hiS func420 ntmps420 fun g w0 R h0=>go [.s 1 4]<|lwP (.pointer (some ⟨b,1,none⟩)) (law_indexArr (x:=Ot 11) (i:=Ot 9) (b:=b) (off:=0) (z:=1) kr underlying110 1 kr 1 kr kr om om 1 om _)<|go [rd 1 5 0 1 1 h0] ?_
 exact enR _ [] h0
theorem back_2(b f p d s l:Nat)(z0:Int):HQ 420 [pV b,iV 2] [Cl b [Value.nilIface,.iface 179 (pV f),.iface 182 (pV p),.iface 185 (pV d),pV s,pV l,iV z0] 113] (.func (Fn.func 453) #[pV p] #[]) [Cl b [Value.nilIface,.iface 179 (pV f),.iface 182 (pV p),.iface 185 (pV d),pV s,pV l,iV z0] 113]:=by
 refine hiS func420 ntmps420 fun g w0 R h0=>go [.s 1 4]<|lwP (.pointer (some ⟨b,2,none⟩)) (law_indexArr (x:=Ot 11) (i:=Ot 9) (b:=b) (off:=0) (z:=2) kr underlying110 1 kr 2 kr kr om om 2 om _)<|go [rd 1 5 0 2 1 h0] ?_
 exact enR _ [] h0
theorem back_3(b f p d s l:Nat)(z0:Int):HQ 420 [pV b,iV 3] [Cl b [Value.nilIface,.iface 179 (pV f),.iface 182 (pV p),.iface 185 (pV d),pV s,pV l,iV z0] 113] (.func (Fn.func 454) #[pV d] #[]) [Cl b [Value.nilIface,.iface 179 (pV f),.iface 182 (pV p),.iface 185 (pV d),pV s,pV l,iV z0] 113]:=by
 refine hiS func420 ntmps420 fun g w0 R h0=>go [.s 1 4]<|lwP (.pointer (some ⟨b,3,none⟩)) (law_indexArr (x:=Ot 11) (i:=Ot 9) (b:=b) (off:=0) (z:=3) kr underlying110 1 kr 3 kr kr om om 3 om _)<|go [rd 1 5 0 3 1 h0] ?_
 exact enR _ [] h0
theorem wrel_no(b:Nat)(S:Wst)(x y z wy:Int)(hz0:0≤z)(hz1:z≤4294967295)(hg: ¬(1≤x∧x≤3∧0≤y∧y≤63∧1≤z)):HQ 377 [pV b,.agg #[iV x,iV y,uV z],iV wy] [Wd b S] (.tuple #[iV (relA S (x,y,z) wy),iV (relE S (x,y,z) wy)]) [Wd b (relS S (x,y,z) wy)]:=by
 refine hiS func377 ntmps377 fun g w0 R h0=> ?_
 obtain⟨f10,p11,d12,s13,l14,hW15,h16⟩:=wd_open h0
 have hW15n:=hW15.nl;have hW15m:=hW15.nh;have hW15t:=hW15.tn
 refine g0<|nP 48 [iV x,iV y,uV z] h16 (fun r17 _ h19=> ?_)
 have h20:=h19.a.t8
 refine g0<|cl1 call40 (wvalid_cl b l14 Value.nilIface (.iface 179 (pV f10)) (.iface 182 (pV p11)) (.iface 185 (pV d12)) (pV s13) (iV S.now)) h20 fun _ h22=>go [rd 3 0 1 0 3 h22] ?_
 by_cases c23:1≤x
 ·
  by_cases c24:x≤3
  ·
   by_cases c25:0≤y
   ·
    by_cases c26:y≤63
    ·
     refine cl0 call273 (couter_no x y z om om om) h22 fun w27 h28=>g0 ?_
     have hp_:=rel_arg (S:=S) (o:=(x,y,z)) (wy:=wy) (.inl hg)
     have h30:sat g _ (Wd b S::_):=wd_close hW15 h28.f.f.f.f.f.e.t8
     exact en (.tuple #[iV 0,iV 2]) [] ⟨_,[Wd b S],rfl,⟨by rw[hp_.1,hp_.2.1],by rw[hp_.2.2]⟩,h30.B.t2⟩
    refine cl0 call273 (couter_no x y z om om om) h22 fun w32 h33=>g0 ?_
    have hp_:=rel_arg (S:=S) (o:=(x,y,z)) (wy:=wy) (.inl hg)
    have h35:sat g _ (Wd b S::_):=wd_close hW15 h33.f.f.f.f.f.e.t8
    exact en (.tuple #[iV 0,iV 2]) [] ⟨_,[Wd b S],rfl,⟨by rw[hp_.1,hp_.2.1],by rw[hp_.2.2]⟩,h35.B.t2⟩
   refine cl0 call273 (couter_no x y z om om om) h22 fun w37 h38=>g0 ?_
   have hp_:=rel_arg (S:=S) (o:=(x,y,z)) (wy:=wy) (.inl hg)
   have h40:sat g _ (Wd b S::_):=wd_close hW15 h38.f.f.f.f.f.e.t8
   exact en (.tuple #[iV 0,iV 2]) [] ⟨_,[Wd b S],rfl,⟨by rw[hp_.1,hp_.2.1],by rw[hp_.2.2]⟩,h40.B.t2⟩
  refine cl0 call273 (couter_no x y z om om om) h22 fun w42 h43=>g0 ?_
  have hp_:=rel_arg (S:=S) (o:=(x,y,z)) (wy:=wy) (.inl hg)
  have h45:sat g _ (Wd b S::_):=wd_close hW15 h43.f.f.f.f.f.e.t8
  exact en (.tuple #[iV 0,iV 2]) [] ⟨_,[Wd b S],rfl,⟨by rw[hp_.1,hp_.2.1],by rw[hp_.2.2]⟩,h45.B.t2⟩
 refine cl0 call273 (couter_no x y z om om om) h22 fun w47 h48=>g0 ?_
 have hp_:=rel_arg (S:=S) (o:=(x,y,z)) (wy:=wy) (.inl hg)
 have h50:sat g _ (Wd b S::_):=wd_close hW15 h48.f.f.f.f.f.e.t8
 exact en (.tuple #[iV 0,iV 2]) [] ⟨_,[Wd b S],rfl,⟨by rw[hp_.1,hp_.2.1],by rw[hp_.2.2]⟩,h50.B.t2⟩
theorem wrel_wy(b:Nat)(S:Wst)(x y z:Int)(hz0:0≤z)(hz1:z≤4294967295)(hg:KGood (x,y,z))(hy0:0≤y)(hy1:y≤63)(hz:1≤z)(hx:1≤x∧x≤3)(wy:Int)(hwy:wy<1∨3<wy):HQ 377 [pV b,.agg #[iV x,iV y,uV z],iV wy] [Wd b S] (.tuple #[iV (relA S (x,y,z) wy),iV (relE S (x,y,z) wy)]) [Wd b (relS S (x,y,z) wy)]:=by
 refine hiS func377 ntmps377 fun g w0 R h0=> ?_
 obtain⟨f10,p11,d12,s13,l14,hW15,h16⟩:=wd_open h0
 have hW15n:=hW15.nl;have hW15m:=hW15.nh;have hW15t:=hW15.tn
 refine g0<|nP 48 [iV x,iV y,uV z] h16 (fun r17 _ h19=> ?_)
 have h20:=h19.a.t8
 refine g0<|cl1 call40 (wvalid_cl b l14 Value.nilIface (.iface 179 (pV f10)) (.iface 182 (pV p11)) (.iface 185 (pV d12)) (pV s13) (iV S.now)) h20 fun _ h22=>go [rd 3 0 1 0 3 h22]<|cl0 call273 (couter_ok x y z om om om) h22 fun w23 h24=>go [.s 3 5] ?_
 by_cases c25:wy<1
 ·
  refine go [.v 3 5 (oT _ c25)] ?_
  have hp_:=rel_arg (S:=S) (o:=(x,y,z)) (wy:=wy) (.inr hwy)
  have h27:sat g _ (Wd b S::_):=wd_close hW15 h24.f.f.f.f.f.e.t8
  exact en (.tuple #[iV 0,iV 2]) [] ⟨_,[Wd b S],rfl,⟨by rw[hp_.1,hp_.2.1],by rw[hp_.2.2]⟩,h27.B.t2⟩
 refine go [.v 3 5 (oF _ c25),.v 3 9 (oT (wy>3))] ?_
 have hp_:=rel_arg (S:=S) (o:=(x,y,z)) (wy:=wy) (.inr hwy)
 have h30:sat g _ (Wd b S::_):=wd_close hW15 h24.f.f.f.f.f.e.t8
 exact en (.tuple #[iV 0,iV 2]) [] ⟨_,[Wd b S],rfl,⟨by rw[hp_.1,hp_.2.1],by rw[hp_.2.2]⟩,h30.B.t2⟩
theorem wrel_none(b:Nat)(S:Wst)(x y z:Int)(hz0:0≤z)(hz1:z≤4294967295)(hg:KGood (x,y,z))(hy0:0≤y)(hy1:y≤63)(hz:1≤z)(hx:1≤x∧x≤3)(hT: ¬Thr S (x,y,z))(wy:Int)(hwy:1≤wy∧wy≤3):HQ 377 [pV b,.agg #[iV x,iV y,uV z],iV wy] [Wd b S] (.tuple #[iV (relA S (x,y,z) wy),iV (relE S (x,y,z) wy)]) [Wd b (relS S (x,y,z) wy)]:=by
 refine hiS func377 ntmps377 fun g w0 R h0=> ?_
 obtain⟨f10,p11,d12,s13,l14,hW15,h16⟩:=wd_open h0
 have hW15n:=hW15.nl;have hW15m:=hW15.nh;have hW15t:=hW15.tn
 refine g0<|nP 48 [iV x,iV y,uV z] h16 (fun r17 _ h19=> ?_)
 have h20:=h19.a.t8
 refine g0<|cl1 call40 (wvalid_cl b l14 Value.nilIface (.iface 179 (pV f10)) (.iface 182 (pV p11)) (.iface 185 (pV d12)) (pV s13) (iV S.now)) h20 fun _ h22=>go [rd 3 0 1 0 3 h22]<|cl0 call273 (couter_ok x y z om om om) h22 fun _ h24=> ?_
 have h25:=h24.f.f.f.f.f.e.t8
 refine go [.v 3 5 (oF (wy<1)),.v 3 9 (oF (wy>3)),rd 5 1 1 0 3 h24]<|cl6 call358 (by have h_:=has_ht b f10 p11 d12 s13 l14 S hW15 x y z om om;rw[decide_eq_false hT] at h_;exact h_) h25 fun w26 h27=> ?_
 refine g0 ?_
 have hp_:=rel_none (S:=S) (o:=(x,y,z)) hg hwy hT
 have h28:sat g _ (Wd b S::_):=wd_close hW15 h27
 exact en (.tuple #[iV 0,iV 5]) [] ⟨_,[Wd b S],rfl,⟨by rw[hp_.1,hp_.2.1],by rw[hp_.2.2]⟩,h28.B.t2⟩
theorem wrel_full(b:Nat)(S:Wst)(x y z:Int)(hz0:0≤z)(hz1:z≤4294967295)(hg:KGood (x,y,z))(hy0:0≤y)(hy1:y≤63)(hz:1≤z)(hx:1≤x∧x≤3)(hT:Thr S (x,y,z))(wy:Int)(hwy:1≤wy∧wy≤3)(hn:10000≤S.T.length):HQ 377 [pV b,.agg #[iV x,iV y,uV z],iV wy] [Wd b S] (.tuple #[iV (relA S (x,y,z) wy),iV (relE S (x,y,z) wy)]) [Wd b (relS S (x,y,z) wy)]:=by
 refine hiS func377 ntmps377 fun g w0 R h0=> ?_
 obtain⟨f10,p11,d12,s13,l14,hW15,h16⟩:=wd_open h0
 have hW15n:=hW15.nl;have hW15m:=hW15.nh;have hW15t:=hW15.tn
 refine g0<|nP 48 [iV x,iV y,uV z] h16 (fun r17 _ h19=> ?_)
 have h20:=h19.a.t8
 refine g0<|cl1 call40 (wvalid_cl b l14 Value.nilIface (.iface 179 (pV f10)) (.iface 182 (pV p11)) (.iface 185 (pV d12)) (pV s13) (iV S.now)) h20 fun _ h22=>go [rd 3 0 1 0 3 h22]<|cl0 call273 (couter_ok x y z om om om) h22 fun _ h24=> ?_
 have h25:=h24.f.f.f.f.f.e.t8
 refine go [.v 3 5 (oF (wy<1)),.v 3 9 (oF (wy>3)),rd 5 1 1 0 3 h24]<|cl6 call358 (by have h_:=has_ht b f10 p11 d12 s13 l14 S hW15 x y z om om;rw[decide_eq_true hT] at h_;exact h_) h25 fun _ h27=> ?_
 have h28:=h27.e.t8
 refine go [rd 7 3 0 5 1 h27]<|cl1 call418 (lglen_ht l14 S.T) h28 fun w29 h30=>go [.v 7 5 (oT ((S.T.length:Int)≥10000))] ?_
 have hp_:=rel_full (S:=S) (o:=(x,y,z)) hwy hT hn
 have h32:sat g _ (Wd b S::_):=wd_close hW15 h30.e.e.e.e.e.t8
 exact en (.tuple #[iV 0,iV 4]) [] ⟨_,[Wd b S],rfl,⟨by rw[hp_.1,hp_.2.1],by rw[hp_.2.2]⟩,h32.B.t2⟩
theorem wrel_1(b:Nat)(S:Wst)(y z:Int)(hz0:0≤z)(hz1:z≤4294967295)(hg:KGood (1,y,z))(hy0:0≤y)(hy1:y≤63)(hz:1≤z)(hT:Thr S (1,y,z))(wy:Int)(hwy:1≤wy∧wy≤3)(hn:S.T.length<10000):HQ 377 [pV b,.agg #[iV 1,iV y,uV z],iV wy] [Wd b S] (.tuple #[iV (relA S (1,y,z) wy),iV (relE S (1,y,z) wy)]) [Wd b (relS S (1,y,z) wy)]:=by
 refine hiS func377 ntmps377 fun g w0 R h0=> ?_
 obtain⟨f10,p11,d12,s13,l14,hW15,h16⟩:=wd_open h0
 have hW15n:=hW15.nl;have hW15m:=hW15.nh;have hW15t:=hW15.tn
 refine g0<|nP 48 [iV 1,iV y,uV z] h16 (fun r17 _ h19=> ?_)
 have h20:=h19.a.t8
 refine g0<|cl1 call40 (wvalid_cl b l14 Value.nilIface (.iface 179 (pV f10)) (.iface 182 (pV p11)) (.iface 185 (pV d12)) (pV s13) (iV S.now)) h20 fun _ h22=>go [rd 3 0 1 0 3 h22]<|cl0 call273 (couter_ok 1 y z om om om) h22 fun _ h24=> ?_
 have h25:=h24.f.f.f.f.f.e.t8
 refine go [.v 3 5 (oF (wy<1)),.v 3 9 (oF (wy>3)),rd 5 1 1 0 3 h24]<|cl6 call358 (by have h_:=has_ht b f10 p11 d12 s13 l14 S hW15 1 y z om om;rw[decide_eq_true hT] at h_;exact h_) h25 fun _ h27=> ?_
 have h28:=h27.e.t8
 refine go [rd 7 3 0 5 1 h27]<|cl1 call418 (lglen_ht l14 S.T) h28 fun _ h30=> ?_
 have h31:=h30.e.t8
 refine go [.v 7 5 (oF ((S.T.length:Int)≥10000)),rd 9 3 1 4 1 h30]<|cl1 call271 (next_ht s13 S.q) h31 fun _ h33=>g0<|dw (fls [0,1,2,3,4,5,6,7,8,9,10,11] (Tr.an 12 Tr.nil)) h33 fun _ h35=> ?_
 have h36:=h35.a.t8
 refine go [rd 10 3 2 5 1 h35,rd 10 7 2 6 1 h35,rd 10 8 6 0 3 h35]<|cw1 call419 (lgadd_ht l14 S.T S.now 1 y z wy (S.q.headD 1) om om (rel_attP hW15 hg hwy) hW15.ta om) h36 fun w37 h38=>⟨kd [],?_⟩
 refine go [.s 11 1] ?_
 by_cases c39:(S.q.headD 1)=1
 ·
  refine go [.v 11 1 (qeT _ _ c39)]<|dw (fls [0,1,2,4] (Tr.an 3 (Tr.an 5 Tr.nil))) h38 fun _ h41=> ?_
  have h42:=h41.b.t8
  refine go [rd 12 2 6 0 1 h41,rd 12 4 6 0 3 h41]<|cw1 call420 (back_1 b f10 p11 d12 s13 l14 S.now) h42 fun _ h44=>⟨kd [rd 0 4 6 0 3 h44],?_⟩
  refine cw1 call452 (by have h_:=fclose_ht f10 64 S.F 1 y z om om;rw[show clsX S.F (1,y,z)=giv S.F (1,y,z) from cls_giv hT] at h_;exact h_) h44.c.t8 fun w46 h47=>⟨kd [],?_⟩
  refine g0 ?_
  have hp_:=rel_ok (S:=S) (o:=(1,y,z)) hwy hT hn
  have i:relS S (1,y,z) wy=({S with q:=S.q.tail,T:=S.T++ [⟨S.now,(1,y,z),wy,S.q.headD 1⟩],F:=giv S.F (1,y,z)}:Wst):=hp_.2.2.trans (if_pos om)
  have h48:=h47.c.e.e.c.d.t8
  have h49:sat g _ (Wd b ({S with q:=S.q.tail,T:=S.T++ [⟨S.now,(1,y,z),wy,S.q.headD 1⟩],F:=giv S.F (1,y,z)}:Wst)::_):=wd_close (i▸wok_rel hW15 (1,y,z) wy) h48
  exact en (.tuple #[iV (S.q.headD 1),iV 0]) [] ⟨_,[Wd b ({S with q:=S.q.tail,T:=S.T++ [⟨S.now,(1,y,z),wy,S.q.headD 1⟩],F:=giv S.F (1,y,z)}:Wst)],rfl,⟨by rw[hp_.1,hp_.2.1],by rw[i]⟩,h49.B.t2⟩
 refine go [.v 11 1 (qeF _ _ c39)] ?_
 have hp_:=rel_ok (S:=S) (o:=(1,y,z)) hwy hT hn
 have i:relS S (1,y,z) wy=({S with q:=S.q.tail,T:=S.T++ [⟨S.now,(1,y,z),wy,S.q.headD 1⟩]}:Wst):=hp_.2.2.trans (if_neg om)
 have h51:=h38.a.e.e.e.e.t8
 have h52:sat g _ (Wd b ({S with q:=S.q.tail,T:=S.T++ [⟨S.now,(1,y,z),wy,S.q.headD 1⟩]}:Wst)::_):=wd_close (i▸wok_rel hW15 (1,y,z) wy) h51
 exact en (.tuple #[iV (S.q.headD 1),iV 0]) [] ⟨_,[Wd b ({S with q:=S.q.tail,T:=S.T++ [⟨S.now,(1,y,z),wy,S.q.headD 1⟩]}:Wst)],rfl,⟨by rw[hp_.1,hp_.2.1],by rw[i]⟩,h52.B.t2⟩
theorem wrel_2(b:Nat)(S:Wst)(y z:Int)(hz0:0≤z)(hz1:z≤4294967295)(hg:KGood (2,y,z))(hy0:0≤y)(hy1:y≤63)(hz:1≤z)(hT:Thr S (2,y,z))(wy:Int)(hwy:1≤wy∧wy≤3)(hn:S.T.length<10000):HQ 377 [pV b,.agg #[iV 2,iV y,uV z],iV wy] [Wd b S] (.tuple #[iV (relA S (2,y,z) wy),iV (relE S (2,y,z) wy)]) [Wd b (relS S (2,y,z) wy)]:=by
 refine hiS func377 ntmps377 fun g w0 R h0=> ?_
 obtain⟨f10,p11,d12,s13,l14,hW15,h16⟩:=wd_open h0
 have hW15n:=hW15.nl;have hW15m:=hW15.nh;have hW15t:=hW15.tn
 refine g0<|nP 48 [iV 2,iV y,uV z] h16 (fun r17 _ h19=> ?_)
 have h20:=h19.a.t8
 refine g0<|cl1 call40 (wvalid_cl b l14 Value.nilIface (.iface 179 (pV f10)) (.iface 182 (pV p11)) (.iface 185 (pV d12)) (pV s13) (iV S.now)) h20 fun _ h22=>go [rd 3 0 1 0 3 h22]<|cl0 call273 (couter_ok 2 y z om om om) h22 fun _ h24=> ?_
 have h25:=h24.f.f.f.f.f.e.t8
 refine go [.v 3 5 (oF (wy<1)),.v 3 9 (oF (wy>3)),rd 5 1 1 0 3 h24]<|cl6 call358 (by have h_:=has_ht b f10 p11 d12 s13 l14 S hW15 2 y z om om;rw[decide_eq_true hT] at h_;exact h_) h25 fun _ h27=> ?_
 have h28:=h27.e.t8
 refine go [rd 7 3 0 5 1 h27]<|cl1 call418 (lglen_ht l14 S.T) h28 fun _ h30=> ?_
 have h31:=h30.e.t8
 refine go [.v 7 5 (oF ((S.T.length:Int)≥10000)),rd 9 3 1 4 1 h30]<|cl1 call271 (next_ht s13 S.q) h31 fun _ h33=>g0<|dw (fls [0,1,2,3,4,5,6,7,8,9,10,11] (Tr.an 12 Tr.nil)) h33 fun _ h35=> ?_
 have h36:=h35.a.t8
 refine go [rd 10 3 2 5 1 h35,rd 10 7 2 6 1 h35,rd 10 8 6 0 3 h35]<|cw1 call419 (lgadd_ht l14 S.T S.now 2 y z wy (S.q.headD 1) om om (rel_attP hW15 hg hwy) hW15.ta om) h36 fun w37 h38=>⟨kd [],?_⟩
 refine go [.s 11 1] ?_
 by_cases c39:(S.q.headD 1)=1
 ·
  refine go [.v 11 1 (qeT _ _ c39)]<|dw (fls [0,1,2,4] (Tr.an 3 (Tr.an 5 Tr.nil))) h38 fun _ h41=> ?_
  have h42:=h41.b.t8
  refine go [rd 12 2 6 0 1 h41,rd 12 4 6 0 3 h41]<|cw1 call420 (back_2 b f10 p11 d12 s13 l14 S.now) h42 fun _ h44=>⟨kd [rd 0 4 6 0 3 h44],?_⟩
  refine cw1 call453 (punpin_ht p11 S.B y z y.toNat (thr_at hT) (thr_nat hg)) h44.d.t8 fun w46 h47=>⟨kd [],?_⟩
  refine g0 ?_
  have hp_:=rel_ok (S:=S) (o:=(2,y,z)) hwy hT hn
  have i:relS S (2,y,z) wy=({S with q:=S.q.tail,T:=S.T++ [⟨S.now,(2,y,z),wy,S.q.headD 1⟩],B:=giv S.B (2,y,z)}:Wst):=hp_.2.2.trans (if_pos om)
  have h48:=h47.c.e.b.e.d.t8
  have h49:sat g _ (Wd b ({S with q:=S.q.tail,T:=S.T++ [⟨S.now,(2,y,z),wy,S.q.headD 1⟩],B:=giv S.B (2,y,z)}:Wst)::_):=wd_close (i▸wok_rel hW15 (2,y,z) wy) h48
  exact en (.tuple #[iV (S.q.headD 1),iV 0]) [] ⟨_,[Wd b ({S with q:=S.q.tail,T:=S.T++ [⟨S.now,(2,y,z),wy,S.q.headD 1⟩],B:=giv S.B (2,y,z)}:Wst)],rfl,⟨by rw[hp_.1,hp_.2.1],by rw[i]⟩,h49.B.t2⟩
 refine go [.v 11 1 (qeF _ _ c39)] ?_
 have hp_:=rel_ok (S:=S) (o:=(2,y,z)) hwy hT hn
 have i:relS S (2,y,z) wy=({S with q:=S.q.tail,T:=S.T++ [⟨S.now,(2,y,z),wy,S.q.headD 1⟩]}:Wst):=hp_.2.2.trans (if_neg om)
 have h51:=h38.a.e.e.e.e.t8
 have h52:sat g _ (Wd b ({S with q:=S.q.tail,T:=S.T++ [⟨S.now,(2,y,z),wy,S.q.headD 1⟩]}:Wst)::_):=wd_close (i▸wok_rel hW15 (2,y,z) wy) h51
 exact en (.tuple #[iV (S.q.headD 1),iV 0]) [] ⟨_,[Wd b ({S with q:=S.q.tail,T:=S.T++ [⟨S.now,(2,y,z),wy,S.q.headD 1⟩]}:Wst)],rfl,⟨by rw[hp_.1,hp_.2.1],by rw[i]⟩,h52.B.t2⟩
theorem wrel_3(b:Nat)(S:Wst)(y z:Int)(hz0:0≤z)(hz1:z≤4294967295)(hg:KGood (3,y,z))(hy0:0≤y)(hy1:y≤63)(hz:1≤z)(hT:Thr S (3,y,z))(wy:Int)(hwy:1≤wy∧wy≤3)(hn:S.T.length<10000):HQ 377 [pV b,.agg #[iV 3,iV y,uV z],iV wy] [Wd b S] (.tuple #[iV (relA S (3,y,z) wy),iV (relE S (3,y,z) wy)]) [Wd b (relS S (3,y,z) wy)]:=by
 refine hiS func377 ntmps377 fun g w0 R h0=> ?_
 obtain⟨f10,p11,d12,s13,l14,hW15,h16⟩:=wd_open h0
 have hW15n:=hW15.nl;have hW15m:=hW15.nh;have hW15t:=hW15.tn
 refine g0<|nP 48 [iV 3,iV y,uV z] h16 (fun r17 _ h19=> ?_)
 have h20:=h19.a.t8
 refine g0<|cl1 call40 (wvalid_cl b l14 Value.nilIface (.iface 179 (pV f10)) (.iface 182 (pV p11)) (.iface 185 (pV d12)) (pV s13) (iV S.now)) h20 fun _ h22=>go [rd 3 0 1 0 3 h22]<|cl0 call273 (couter_ok 3 y z om om om) h22 fun _ h24=> ?_
 have h25:=h24.f.f.f.f.f.e.t8
 refine go [.v 3 5 (oF (wy<1)),.v 3 9 (oF (wy>3)),rd 5 1 1 0 3 h24]<|cl6 call358 (by have h_:=has_ht b f10 p11 d12 s13 l14 S hW15 3 y z om om;rw[decide_eq_true hT] at h_;exact h_) h25 fun _ h27=> ?_
 have h28:=h27.e.t8
 refine go [rd 7 3 0 5 1 h27]<|cl1 call418 (lglen_ht l14 S.T) h28 fun _ h30=> ?_
 have h31:=h30.e.t8
 refine go [.v 7 5 (oF ((S.T.length:Int)≥10000)),rd 9 3 1 4 1 h30]<|cl1 call271 (next_ht s13 S.q) h31 fun _ h33=>g0<|dw (fls [0,1,2,3,4,5,6,7,8,9,10,11] (Tr.an 12 Tr.nil)) h33 fun _ h35=> ?_
 have h36:=h35.a.t8
 refine go [rd 10 3 2 5 1 h35,rd 10 7 2 6 1 h35,rd 10 8 6 0 3 h35]<|cw1 call419 (lgadd_ht l14 S.T S.now 3 y z wy (S.q.headD 1) om om (rel_attP hW15 hg hwy) hW15.ta om) h36 fun w37 h38=>⟨kd [],?_⟩
 refine go [.s 11 1] ?_
 by_cases c39:(S.q.headD 1)=1
 ·
  refine go [.v 11 1 (qeT _ _ c39)]<|dw (fls [0,1,2,4] (Tr.an 3 (Tr.an 5 Tr.nil))) h38 fun _ h41=> ?_
  have h42:=h41.b.t8
  refine go [rd 12 2 6 0 1 h41,rd 12 4 6 0 3 h41]<|cw1 call420 (back_3 b f10 p11 d12 s13 l14 S.now) h42 fun _ h44=>⟨kd [rd 0 4 6 0 3 h44],?_⟩
  refine cw1 call454 (dreturn_ht d12 S.D y z y.toNat (thr_at hT) (thr_nat hg) om) h44.e.t8 fun w46 h47=>⟨kd [],?_⟩
  refine g0 ?_
  have hp_:=rel_ok (S:=S) (o:=(3,y,z)) hwy hT hn
  have i:relS S (3,y,z) wy=({S with q:=S.q.tail,T:=S.T++ [⟨S.now,(3,y,z),wy,S.q.headD 1⟩],D:=giv S.D (3,y,z)}:Wst):=hp_.2.2.trans (if_pos om)
  have h48:=h47.c.a.e.e.d.t8
  have h49:sat g _ (Wd b ({S with q:=S.q.tail,T:=S.T++ [⟨S.now,(3,y,z),wy,S.q.headD 1⟩],D:=giv S.D (3,y,z)}:Wst)::_):=wd_close (i▸wok_rel hW15 (3,y,z) wy) h48
  exact en (.tuple #[iV (S.q.headD 1),iV 0]) [] ⟨_,[Wd b ({S with q:=S.q.tail,T:=S.T++ [⟨S.now,(3,y,z),wy,S.q.headD 1⟩],D:=giv S.D (3,y,z)}:Wst)],rfl,⟨by rw[hp_.1,hp_.2.1],by rw[i]⟩,h49.B.t2⟩
 refine go [.v 11 1 (qeF _ _ c39)] ?_
 have hp_:=rel_ok (S:=S) (o:=(3,y,z)) hwy hT hn
 have i:relS S (3,y,z) wy=({S with q:=S.q.tail,T:=S.T++ [⟨S.now,(3,y,z),wy,S.q.headD 1⟩]}:Wst):=hp_.2.2.trans (if_neg om)
 have h51:=h38.a.e.e.e.e.t8
 have h52:sat g _ (Wd b ({S with q:=S.q.tail,T:=S.T++ [⟨S.now,(3,y,z),wy,S.q.headD 1⟩]}:Wst)::_):=wd_close (i▸wok_rel hW15 (3,y,z) wy) h51
 exact en (.tuple #[iV (S.q.headD 1),iV 0]) [] ⟨_,[Wd b ({S with q:=S.q.tail,T:=S.T++ [⟨S.now,(3,y,z),wy,S.q.headD 1⟩]}:Wst)],rfl,⟨by rw[hp_.1,hp_.2.1],by rw[i]⟩,h52.B.t2⟩
theorem wrel_ht(b:Nat)(S:Wst)(x y z wy:Int)(hz0:0≤z)(hz1:z≤4294967295):HQ 377 [pV b,.agg #[iV x,iV y,uV z],iV wy] [Wd b S] (Value.tuple #[Value.int .i64 (relA S (x,y,z) wy),Value.int .i64 (relE S (x,y,z) wy)]) [Wd b (relS S (x,y,z) wy)]:=by
 by_cases h:KGood (x,y,z)
 · by_cases hw:1≤wy∧wy≤3
   · by_cases hT:Thr S (x,y,z)
     · by_cases hn:S.T.length<10000
       · rcases kgood_k h with h1|h1|h1
         · have h2:x=1:=h1
           subst h2
           exact wrel_1 b S y z hz0 hz1 h h.2.2.1 h.2.2.2.1 h.2.2.2.2 hT wy hw hn
         · have h2:x=2:=h1
           subst h2
           exact wrel_2 b S y z hz0 hz1 h h.2.2.1 h.2.2.2.1 h.2.2.2.2 hT wy hw hn
         · have h2:x=3:=h1
           subst h2
           exact wrel_3 b S y z hz0 hz1 h h.2.2.1 h.2.2.2.1 h.2.2.2.2 hT wy hw hn
       · exact wrel_full b S x y z hz0 hz1 h h.2.2.1 h.2.2.2.1 h.2.2.2.2 ⟨h.1,h.2.1⟩ hT wy hw om
     · exact wrel_none b S x y z hz0 hz1 h h.2.2.1 h.2.2.2.1 h.2.2.2.2 ⟨h.1,h.2.1⟩ hT wy hw
   · exact wrel_wy b S x y z hz0 hz1 h h.2.2.1 h.2.2.2.1 h.2.2.2.2 ⟨h.1,h.2.1⟩ wy om
 · exact wrel_no b S x y z wy hz0 hz1 h
end Go.Proofs.YtcgkoffnknpgjaaGreatDoor
