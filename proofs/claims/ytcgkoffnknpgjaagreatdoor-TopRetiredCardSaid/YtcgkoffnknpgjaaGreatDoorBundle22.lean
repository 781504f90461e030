/- Walks, printed by my generator P:../fds/gen0.py. -/
import Derived.Test.YtcgkoffnknpgjaaGreatDoorProg
import Derived.Test.YtcgkoffnknpgjaaGreatDoorHq
import Derived.Test.YtcgkoffnknpgjaaGreatDoorFdsP
import Derived.Test.YtcgkoffnknpgjaaGreatDoorRn2
import Derived.Test.YtcgkoffnknpgjaaGreatDoorRf4
namespace Go.Proofs.YtcgkoffnknpgjaaGreatDoor
set_option linter.unusedVariables false
set_option linter.unusedSimpArgs false
open Tryz
set_option maxHeartbeats 4000000
section
def tbl(n:Nat)(B:List Sl2):List Value:= .int .i64 (n:Int)::fl eSl B
def SlOk(A:List Sl2):Prop:= ∀s∈A,0≤s.1∧s.1≤2∧1≤s.2∧s.2≤4294967295
def Tb(b n:Nat)(A:List Sl2):Assn:=fun h=> ∃T:List Sl2,(A.length=n∧1≤n∧n≤256∧SlOk A∧(A++T).length=256)∧Cl b (tbl n (A++T)) 278 h
theorem tbl_len(n:Nat)(B:List Sl2):(tbl n B).length=1+B.length*2:=by rw[tbl,List.length_cons,fl_len eSl_ok];omega
theorem tbl_st{n i:Nat}{B:List Sl2}{s:Sl2}(h:B[i]? =some s):(tbl n B)[1+i*2]? =some (.int .i64 s.1):=by
 have:=fl_get eSl_ok (j:=0) (v:= .int .i64 s.1) h rfl
 rw[tbl,show 1+i*2=(i*2+0)+1 from by omega,List.getElem?_cons_succ]
 exact this
theorem tbl_gen{n i:Nat}{B:List Sl2}{s:Sl2}(h:B[i]? =some s):(tbl n B)[1+i*2+1]? =some (.int .u32 s.2):=by
 have:=fl_get eSl_ok (j:=1) (v:= .int .u32 s.2) h rfl
 rw[tbl,show 1+i*2+1=(i*2+1)+1 from by omega,List.getElem?_cons_succ]
 exact this
theorem fl_put(a z:Int): ∀(B:List Sl2) (i:Nat) (s:Sl2),B[i]? =some s→
  (fl eSl B).set (i*2) (.int .i64 a)=fl eSl (B.set i (a,s.2))∧(fl eSl B).set (i*2+1) (.int .u32 z)=fl eSl (B.set i (s.1,z))
 | [],i,s,h=>by simp at h
 |b::B,0,s,h=>by
  simp only[List.getElem?_cons_zero,Option.some.injEq] at h
  subst h
  exact⟨rfl,rfl⟩
 |b::B,i+1,s,h=>by
  obtain⟨h1,h2⟩:=fl_put a z B i s (by simpa using h)
  rw[List.set_cons_succ,List.set_cons_succ,fl,fl,fl,←h1,←h2,show (i+1)*2=i*2+2 from by omega]
  exact⟨rfl,rfl⟩
theorem tbl_putS{n i:Nat}{B:List Sl2}{s:Sl2}(h:B[i]? =some s)(a:Int):setL (tbl n B) [(1+i*2,iV a)]=tbl n (B.set i (a,s.2)):=by
 simp only[setL,tbl,show 1+i*2=i*2+1 from by omega,List.set_cons_succ]
 rw[(fl_put a 0 B i s h).1]
theorem tbl_putG{n i:Nat}{B:List Sl2}{s:Sl2}(h:B[i]? =some s)(z:Int):setL (tbl n B) [(1+i*2+1,uV z)]=tbl n (B.set i (s.1,z)):=by
 simp only[setL,tbl,show 1+i*2+1=(i*2+1)+1 from by omega,List.set_cons_succ]
 rw[(fl_put 0 z B i s h).2]
theorem tbl_put2{n i:Nat}{B:List Sl2}{s:Sl2}(h:B[i]? =some s)(a z:Int):setL (tbl n B) [(1+i*2,iV a),(1+i*2+1,uV z)]=tbl n (B.set i (a,z)):=by
 have h1:=tbl_putS (n:=n) h a
 have h2:=tbl_putG (n:=n) (B:=B.set i (a,s.2)) (i:=i) (s:=(a,s.2)) (by rw[List.getElem?_set_self (List.getElem?_eq_some_iff.1 h).1]) z
 rw[List.set_set] at h2
 rw[←h2,←h1]
 rfl
theorem app_set{A T:List Sl2}{i:Nat}(x:Sl2)(h:i<A.length):(A++T).set i x=A.set i x++T:=List.set_append_left _ _ h
theorem app_get{A T:List Sl2}{i:Nat}{s:Sl2}(h:A[i]? =some s):(A++T)[i]? =some s:=by rw[List.getElem?_append_left (List.getElem?_eq_some_iff.1 h).1];exact h
theorem slOk_set{A:List Sl2}{i:Nat}{x:Sl2}(h:SlOk A)(hx:0≤x.1∧x.1≤2∧1≤x.2∧x.2≤4294967295):SlOk (A.set i x):=fun s hs=>by
 rcases List.mem_or_eq_of_mem_set hs with h1|h1
 · exact h s h1
 · rw[h1];exact hx
section
variable {g w : World} {L : List Assn} {b n : Nat} {A : List Sl2}
theorem tb_open(h:sat g w (Tb b n A::L)): ∃T:List Sl2,(A.length=n∧1≤n∧n≤256∧SlOk A∧(A++T).length=256)∧sat g w (Cl b (tbl n (A++T)) 278::L):=
 sat_open (X:=List Sl2) (p:=fun T=>A.length=n∧1≤n∧n≤256∧SlOk A∧(A++T).length=256) (B:=fun T=>Cl b (tbl n (A++T)) 278) h fun k hk=>hk
theorem tb_close{T:List Sl2}(hp:A.length=n∧1≤n∧n≤256∧SlOk A∧(A++T).length=256)(h:sat g w (Cl b (tbl n (A++T)) 278::L)):sat g w (Tb b n A::L):=sat_imp h fun _ hh=>⟨T,hp,hh⟩
end
theorem keyok:KeyOk prog 48:=by
 have hu:prog.underlying 48=some _:=underlying48
 refine⟨fun a b w=> ?_,fun a e w=> ?_,⟨_,underlying48⟩⟩
 · obtain⟨a0,a1,a2⟩:=a
   obtain⟨c0,c1,c2⟩:=b
   show (Op.equalIn 10000 48 (.agg #[iV a0,iV a1,uV a2]) (.agg #[iV c0,iV c1,uV c2])).run prog w= .ok (decide ((a0,a1,a2)=(c0,c1,c2))) w
   by_cases h0:a0=c0
   · by_cases h1:a1=c1
     · by_cases h2:a2=c2
       · subst h0;subst h1;subst h2;simp[go_sem]
       · subst h0;subst h1;simp[go_sem,h2]
     · subst h0;simp[go_sem,h1]
   · simp[go_sem,h0]
 · have h: ∀d:Nat,(Instr.checkKey e (d+1+1) 48 (kv a)).run prog w= .ok () w:=fun d=>by
    simp[kv,Instr.checkKey,go_sem]
   exact h 9998
theorem tbl_stk{n i k:Nat}{B:List Sl2}{s:Sl2}(h:B[i]? =some s)(hk:k=1+i*2):(tbl n B)[k]? =some (.int .i64 s.1):=hk▸tbl_st h
theorem tbl_genk{n i k:Nat}{B:List Sl2}{s:Sl2}(h:B[i]? =some s)(hk:k=1+i*2+1):(tbl n B)[k]? =some (.int .u32 s.2):=hk▸tbl_gen h
theorem tbl_putSk{n i k:Nat}{A T:List Sl2}{s:Sl2}(h:A[i]? =some s)(a:Int)(hk:k=1+i*2):setL (tbl n (A++T)) [(k,iV a)]=tbl n (A.set i (a,s.2)++T):=by
 subst hk
 rw[tbl_putS (app_get h),app_set _ (List.getElem?_eq_some_iff.1 h).1]
theorem tbl_put2k{n i k k2:Nat}{A T:List Sl2}{s:Sl2}(h:A[i]? =some s)(a z:Int)(hk:k=1+i*2)(hk2:k2=1+i*2+1):setL (tbl n (A++T)) [(k,iV a),(k2,uV z)]=tbl n (A.set i (a,z)++T):=by
 subst hk
 subst hk2
 rw[tbl_put2 (app_get h),app_set _ (List.getElem?_eq_some_iff.1 h).1]
theorem tbl_one(n:Nat)(B:List Sl2): ∀v∈tbl n B,v.oneCell'=true:=fun v hv=>by
 rcases List.mem_cons.1 hv with rfl |hv
 · rfl
 · exact fl_one eSl_ok B v hv
theorem tb_bd{g w:World}{L:List Assn}{j b n:Nat}{A:List Sl2}(h:sat g w L)(hj:L[j]? =some (Tb b n A)):A.length=n∧1≤n∧n≤256∧SlOk A:=sat_use h hj fun _ ha _=>by
 obtain⟨T,hp,_⟩:=ha
 exact⟨hp.1,hp.2.1,hp.2.2.1,hp.2.2.2.1⟩
theorem new_put{n i k:Nat}{z:Int}(h:i<256)(hk:k=1+i*2+1):setL (tbl n (List.replicate i (0,z)++List.replicate (256-i) (0,0))) [(k,uV z)]=tbl n (List.replicate (i+1) (0,z)++List.replicate (256-(i+1)) (0,0)):=by
 subst hk
 obtain⟨h1,h2⟩:=rep_put ((0,z):Sl2) ((0,0):Sl2) (0,z) i 256 h
 rw[tbl_putG h1 z,h2,rep_go]
theorem new_ok{n:Nat}{z:Int}(h1:1≤n)(h2:n≤256)(h3:1≤z)(h4:z≤4294967295):(List.replicate n ((0,z):Sl2)).length=n∧1≤n∧n≤256∧SlOk (List.replicate n (0,z))∧(List.replicate n ((0,z):Sl2)++List.replicate (256-n) (0,0)).length=256:=by
 refine⟨List.length_replicate,h1,h2,fun s hs=> ?_,by rw[List.length_append,List.length_replicate,List.length_replicate];omega⟩
 rw[List.eq_of_mem_replicate hs]
 exact⟨by show (0:Int)≤0;decide,by show (0:Int)≤2;decide,h3,h4⟩
theorem slOk_give{A:List Sl2}{q:Nat}{z:Int}{x:Sl2}(h:SlOk A)(hx:A[q]? =some x)(hz:x.2=z):SlOk (giveA A q z):=by
 have:=h x (List.mem_of_getElem? hx)
 unfold giveA
 split
 · exact slOk_set h ⟨by show (0:Int)≤0;decide,by show (0:Int)≤2;decide,by show 1≤z+1;omega,by show z+1≤4294967295;omega⟩
 · exact slOk_set h ⟨by show (0:Int)≤2;decide,by show (2:Int)≤2;decide,by show 1≤z;omega,by show z≤4294967295;omega⟩
end
theorem gcheck_ok(gn:Int)(hg1:1≤gn)(hg:gn≤4294967295):HQ 68 [uV gn] [] (iV 0) []:=by
 refine hiS func68 ntmps68 fun g w0 R h0=>go [.v 1 1 (oF (gn<1)),.v 1 4 (oF (gn>4294967295))] ?_
 exact enR _ [] h0
theorem gcheck_no(gn:Int)(hg0:gn≤0):HQ 68 [uV gn] [] (iV 2) []:=by
 refine hiS func68 ntmps68 fun g w0 R h0=>go [.v 1 1 (oT (gn<1))] ?_
 exact enR _ [] h0
theorem gleft1_ht(b:Nat)(gn:Int)(hg0:0≤gn)(hg:gn≤4294967295):HQ 497 [pV b] [Cl b [uV gn] 24] (uV (-gn+4294967295)) [Cl b [uV gn] 24]:=by
 refine hiS func497 ntmps497 fun g w0 R h0=>go [rd 1 0 0 0 1 h0,.v 1 1 (oU (4294967295-gn) (-gn+4294967295))] ?_
 exact enR _ [] h0
theorem of_ok(b r:Nat)(gn:Int)(hg1:1≤gn)(hg:gn≤4294967295):HQ 496 [.func (Fn.func 497) #[] #[pV b],.slice (some ⟨r,0,none⟩) 1 1] [Cl b [uV gn] 24,Cl r [uV gn] 24] (.tuple #[uV (-gn+4294967295),iV 0]) [Cl b [uV gn] 24,Cl r [uV gn] 24]:=by
 refine hiS func496 ntmps496 fun g w0 R h0=>go [.v 2 1 (oJ .i64 (1:Int) 1)]<|unS 1<|go [.s 4 0]<|lwP (pV r) (liS (Ot 10) (Ot 12) r 0 0 1 1 underlying578 1 0 0)<|go [rd 4 1 1 0 1 h0]<|cl0 call68 (gcheck_ok gn om om) h0 fun _ h11=>g0<|unN<|g0<|up<|g0<|cl1 call497 (gleft1_ht b gn om om) h11 fun _ h13=> ?_
 refine g0 ?_
 exact enR _ [] h13
theorem gleft_ok(gn:Int)(hg1:1≤gn)(hg:gn≤4294967295):HQ 483 [uV gn] [] (.tuple #[uV (-gn+4294967295),iV 0]) []:=by
 refine hiS func483 ntmps483 fun g w0 R h0=>g0<|nP 24 [uV gn] h0 (fun r10 _ h12=> ?_)
 refine go [rd 1 1 0 0 1 h12]<|nG (fun q_=> .slice (some ⟨q_,0,none⟩) 1 1) 24 [uV gn] h12 (fun r13 _ h15=>⟨kd [],?_⟩)
 refine cl2 call496 (of_ok r10 r13 gn om om) h15.a.t3 fun _ h18=>g0 ?_
 exact enR _ [] h18.b.t1
theorem after_ok(gn:Int)(hg1:1≤gn)(hg:gn<4294967295):HQ 456 [uV gn,.int .u64 1] [] (.tuple #[uV (gn+1),.bool true,iV 0]) []:=by
 refine hiS func456 ntmps456 fun g w0 R h0=>g0<|cl0 call483 (gleft_ok gn om om) h0 fun _ h11=>go [.v 2 5 (oLr (-gn+4294967295)),.v 2 6 (oF (1> -gn+4294967295)),.v 4 2 (oUr 1),.v 4 3 (oUr (gn+1))] ?_
 exact enR _ [] h11
theorem after_no(gn:Int)(hg:gn=4294967295):HQ 456 [uV gn,.int .u64 1] [] (.tuple #[uV 0,.bool false,iV 0]) []:=by
 refine hiS func456 ntmps456 fun g w0 R h0=>g0<|cl0 call483 (gleft_ok gn om om) h0 fun _ h11=>go [.v 2 5 (oLr (-gn+4294967295)),.v 2 6 (oT (1> -gn+4294967295))] ?_
 exact enR _ [] h11
theorem next_ok(gn:Int)(hg1:1≤gn)(hg:gn<4294967295):HQ 426 [uV gn] [] (.tuple #[uV (gn+1),.bool true,iV 0]) []:=by
 refine hiS func426 ntmps426 fun g w0 R h0=>g0<|cl0 call456 (after_ok gn om om) h0 fun _ h11=>g0 ?_
 exact enR _ [] h11
theorem next_no(gn:Int)(hg:gn=4294967295):HQ 426 [uV gn] [] (.tuple #[uV 0,.bool false,iV 0]) []:=by
 refine hiS func426 ntmps426 fun g w0 R h0=>g0<|cl0 call456 (after_no gn om) h0 fun _ h11=>g0 ?_
 exact enR _ [] h11
theorem ofouter_ht(x y z:Int)(hz0:0≤z)(hz1:z≤4294967295):HQ 350 [.agg #[iV x,iV y,uV z]] [] (.agg #[iV x,iV y,iV z]) []:=by
 refine hiS func350 ntmps350 fun g w0 R h0=>g0<|nP 48 [iV x,iV y,uV z] h0 (fun _ _ h12=> ?_)
 refine nP 470 [iV 0,iV 0,iV 0] h12 (fun _ _ h15=> ?_)
 refine go [rd 1 1 1 0 1 h15,rd 1 3 1 1 1 h15,rd 1 5 1 2 1 h15,.v 1 6 (oIr z)]<|sA [iV x,iV y,iV z] h15 fun _ h17=>g0 ?_
 exact enR _ [rd 0 0 0 0 3 h17] h17.b.t1
theorem ofdesc_ht(x y z:Int)(hz0:0≤z)(hz1:z≤4294967295):HQ 357 [.agg #[iV x,iV y,uV z]] [] (.agg #[iV x,iV y,iV z]) []:=by
 refine hiS func357 ntmps357 fun g w0 R h0=>g0<|nP 39 [iV x,iV y,uV z] h0 (fun _ _ h12=> ?_)
 refine nP 470 [iV 0,iV 0,iV 0] h12 (fun _ _ h15=> ?_)
 refine go [rd 1 1 1 0 1 h15,rd 1 3 1 1 1 h15,rd 1 5 1 2 1 h15,.v 1 6 (oIr z)]<|sA [iV x,iV y,iV z] h15 fun _ h17=>g0 ?_
 exact enR _ [rd 0 0 0 0 3 h17] h17.b.t1
theorem dcheck_ok(x y z:Int)(hz0:0≤z)(hz1:z≤4294967295)(ho:1≤x∧x≤3∧0≤y∧y≤63∧1≤z):HQ 351 [.agg #[iV x,iV y,iV z],iV 64] [] (iV 0) []:=by
 refine hiS func351 ntmps351 fun g w0 R h0=>g0<|nP 470 [iV x,iV y,iV z] h0 (fun r10 _ h12=> ?_)
 refine go [.s 1 0]<|lwP (pV r10) (law_indexArr (x:=Ot 2) (i:=(Operand.const (iV 0))) (b:=r10) (off:=0) (z:=0) kr underlying470 1 kr 0 kr kr om om 0 om _)<|go [rd 1 1 0 0 1 h12,.v 1 2 (oF (x<1)),.s 1 4]<|lwP (pV r10) (law_indexArr (x:=Ot 2) (i:=(Operand.const (iV 0))) (b:=r10) (off:=0) (z:=0) kr underlying470 1 kr 0 kr kr om om 0 om _)<|go [rd 1 5 0 0 1 h12,.v 1 6 (oF (x>3)),.s 1 9]<|lwP (.pointer (some ⟨r10,1,none⟩)) (law_indexArr (x:=Ot 2) (i:=(Operand.const (iV 1))) (b:=r10) (off:=0) (z:=1) kr underlying470 1 kr 1 kr kr om om 1 om _)<|go [rd 1 10 0 1 1 h12,.v 1 11 (oF (y<0)),.s 1 14]<|lwP (.pointer (some ⟨r10,1,none⟩)) (law_indexArr (x:=Ot 2) (i:=(Operand.const (iV 1))) (b:=r10) (off:=0) (z:=1) kr underlying470 1 kr 1 kr kr om om 1 om _)<|go [rd 1 15 0 1 1 h12,.v 1 17 (oF (y≥64)),.s 3 0]<|lwP (.pointer (some ⟨r10,2,none⟩)) (law_indexArr (x:=Ot 2) (i:=(Operand.const (iV 2))) (b:=r10) (off:=0) (z:=2) kr underlying470 1 kr 2 kr kr om om 2 om _)<|go [rd 3 1 0 2 1 h12,.v 3 2 (oUr z)]<|cl0 call68 (gcheck_ok z om om) h12 fun _ h14=>g0 ?_
 exact enR _ [] h14.a.t1
theorem dcheck_no(x y z:Int)(hz0:0≤z)(hz1:z≤4294967295)(ho: ¬(1≤x∧x≤3∧0≤y∧y≤63∧1≤z)):HQ 351 [.agg #[iV x,iV y,iV z],iV 64] [] (iV 2) []:=by
 refine hiS func351 ntmps351 fun g w0 R h0=>g0<|nP 470 [iV x,iV y,iV z] h0 (fun r10 _ h12=> ?_)
 refine go [.s 1 0]<|lwP (pV r10) (law_indexArr (x:=Ot 2) (i:=(Operand.const (iV 0))) (b:=r10) (off:=0) (z:=0) kr underlying470 1 kr 0 kr kr om om 0 om _)<|go [rd 1 1 0 0 1 h12,.s 1 2] ?_
 by_cases c13:x<1
 ·
  refine go [.v 1 2 (oT _ c13)] ?_
  exact enR _ [] h12.a.t1
 refine go [.v 1 2 (oF _ c13),.s 1 4]<|lwP (pV r10) (law_indexArr (x:=Ot 2) (i:=(Operand.const (iV 0))) (b:=r10) (off:=0) (z:=0) kr underlying470 1 kr 0 kr kr om om 0 om _)<|go [rd 1 5 0 0 1 h12,.s 1 6] ?_
 by_cases c15:x>3
 ·
  refine go [.v 1 6 (oT _ c15)] ?_
  exact enR _ [] h12.a.t1
 refine go [.v 1 6 (oF _ c15),.s 1 9]<|lwP (.pointer (some ⟨r10,1,none⟩)) (law_indexArr (x:=Ot 2) (i:=(Operand.const (iV 1))) (b:=r10) (off:=0) (z:=1) kr underlying470 1 kr 1 kr kr om om 1 om _)<|go [rd 1 10 0 1 1 h12,.s 1 11] ?_
 by_cases c17:y<0
 ·
  refine go [.v 1 11 (oT _ c17)] ?_
  exact enR _ [] h12.a.t1
 refine go [.v 1 11 (oF _ c17),.s 1 14]<|lwP (.pointer (some ⟨r10,1,none⟩)) (law_indexArr (x:=Ot 2) (i:=(Operand.const (iV 1))) (b:=r10) (off:=0) (z:=1) kr underlying470 1 kr 1 kr kr om om 1 om _)<|go [rd 1 15 0 1 1 h12,.s 1 17] ?_
 by_cases c19:y≥64
 ·
  refine go [.v 1 17 (oT _ c19)] ?_
  exact enR _ [] h12.a.t1
 refine go [.v 1 17 (oF _ c19),.s 3 0]<|lwP (.pointer (some ⟨r10,2,none⟩)) (law_indexArr (x:=Ot 2) (i:=(Operand.const (iV 2))) (b:=r10) (off:=0) (z:=2) kr underlying470 1 kr 2 kr kr om om 2 om _)<|go [rd 3 1 0 2 1 h12,.v 3 2 (oUr z)]<|cl0 call68 (gcheck_no z om) h12 fun _ h22=>g0 ?_
 exact enR _ [] h22.a.t1
theorem couter_ok(x y z:Int)(hz0:0≤z)(hz1:z≤4294967295)(ho:1≤x∧x≤3∧0≤y∧y≤63∧1≤z):HQ 273 [.agg #[iV x,iV y,uV z]] [] (iV 0) []:=by
 refine hiS func273 ntmps273 fun g w0 R h0=>g0<|nP 48 [iV x,iV y,uV z] h0 (fun _ _ h12=> ?_)
 refine go [rd 1 0 0 0 3 h12]<|cl0 call350 (ofouter_ht x y z om om) h12 fun _ h14=>cl0 call351 (dcheck_ok x y z om om om) h14 fun _ h16=>g0 ?_
 exact enR _ [] h16.a.t1
theorem couter_no(x y z:Int)(hz0:0≤z)(hz1:z≤4294967295)(ho: ¬(1≤x∧x≤3∧0≤y∧y≤63∧1≤z)):HQ 273 [.agg #[iV x,iV y,uV z]] [] (iV 2) []:=by
 refine hiS func273 ntmps273 fun g w0 R h0=>g0<|nP 48 [iV x,iV y,uV z] h0 (fun _ _ h12=> ?_)
 refine go [rd 1 0 0 0 3 h12]<|cl0 call350 (ofouter_ht x y z om om) h12 fun _ h14=> ?_
 by_cases c15:1≤x
 ·
  by_cases c16:x≤3
  ·
   by_cases c17:0≤y
   ·
    by_cases c18:y≤63
    ·
     refine cl0 call351 (dcheck_no x y z om om om) h14 fun _ h20=>g0 ?_
     exact enR _ [] h20.a.t1
    refine cl0 call351 (dcheck_no x y z om om om) h14 fun _ h23=>g0 ?_
    exact enR _ [] h23.a.t1
   refine cl0 call351 (dcheck_no x y z om om om) h14 fun _ h26=>g0 ?_
   exact enR _ [] h26.a.t1
  refine cl0 call351 (dcheck_no x y z om om om) h14 fun _ h29=>g0 ?_
  exact enR _ [] h29.a.t1
 refine cl0 call351 (dcheck_no x y z om om om) h14 fun _ h32=>g0 ?_
 exact enR _ [] h32.a.t1
theorem dcheckd_ok(x y z:Int)(hz0:0≤z)(hz1:z≤4294967295)(ho:1≤x∧x≤3∧0≤y∧y≤255∧1≤z):HQ 351 [.agg #[iV x,iV y,iV z],iV 256] [] (iV 0) []:=by
 refine hiS func351 ntmps351 fun g w0 R h0=>g0<|nP 470 [iV x,iV y,iV z] h0 (fun r10 _ h12=> ?_)
 refine go [.s 1 0]<|lwP (pV r10) (law_indexArr (x:=Ot 2) (i:=(Operand.const (iV 0))) (b:=r10) (off:=0) (z:=0) kr underlying470 1 kr 0 kr kr om om 0 om _)<|go [rd 1 1 0 0 1 h12,.v 1 2 (oF (x<1)),.s 1 4]<|lwP (pV r10) (law_indexArr (x:=Ot 2) (i:=(Operand.const (iV 0))) (b:=r10) (off:=0) (z:=0) kr underlying470 1 kr 0 kr kr om om 0 om _)<|go [rd 1 5 0 0 1 h12,.v 1 6 (oF (x>3)),.s 1 9]<|lwP (.pointer (some ⟨r10,1,none⟩)) (law_indexArr (x:=Ot 2) (i:=(Operand.const (iV 1))) (b:=r10) (off:=0) (z:=1) kr underlying470 1 kr 1 kr kr om om 1 om _)<|go [rd 1 10 0 1 1 h12,.v 1 11 (oF (y<0)),.s 1 14]<|lwP (.pointer (some ⟨r10,1,none⟩)) (law_indexArr (x:=Ot 2) (i:=(Operand.const (iV 1))) (b:=r10) (off:=0) (z:=1) kr underlying470 1 kr 1 kr kr om om 1 om _)<|go [rd 1 15 0 1 1 h12,.v 1 17 (oF (y≥256)),.s 3 0]<|lwP (.pointer (some ⟨r10,2,none⟩)) (law_indexArr (x:=Ot 2) (i:=(Operand.const (iV 2))) (b:=r10) (off:=0) (z:=2) kr underlying470 1 kr 2 kr kr om om 2 om _)<|go [rd 3 1 0 2 1 h12,.v 3 2 (oUr z)]<|cl0 call68 (gcheck_ok z om om) h12 fun _ h14=>g0 ?_
 exact enR _ [] h14.a.t1
theorem dcheckd_no(x y z:Int)(hz0:0≤z)(hz1:z≤4294967295)(ho: ¬(1≤x∧x≤3∧0≤y∧y≤255∧1≤z)):HQ 351 [.agg #[iV x,iV y,iV z],iV 256] [] (iV 2) []:=by
 refine hiS func351 ntmps351 fun g w0 R h0=>g0<|nP 470 [iV x,iV y,iV z] h0 (fun r10 _ h12=> ?_)
 refine go [.s 1 0]<|lwP (pV r10) (law_indexArr (x:=Ot 2) (i:=(Operand.const (iV 0))) (b:=r10) (off:=0) (z:=0) kr underlying470 1 kr 0 kr kr om om 0 om _)<|go [rd 1 1 0 0 1 h12,.s 1 2] ?_
 by_cases c13:x<1
 ·
  refine go [.v 1 2 (oT _ c13)] ?_
  exact enR _ [] h12.a.t1
 refine go [.v 1 2 (oF _ c13),.s 1 4]<|lwP (pV r10) (law_indexArr (x:=Ot 2) (i:=(Operand.const (iV 0))) (b:=r10) (off:=0) (z:=0) kr underlying470 1 kr 0 kr kr om om 0 om _)<|go [rd 1 5 0 0 1 h12,.s 1 6] ?_
 by_cases c15:x>3
 ·
  refine go [.v 1 6 (oT _ c15)] ?_
  exact enR _ [] h12.a.t1
 refine go [.v 1 6 (oF _ c15),.s 1 9]<|lwP (.pointer (some ⟨r10,1,none⟩)) (law_indexArr (x:=Ot 2) (i:=(Operand.const (iV 1))) (b:=r10) (off:=0) (z:=1) kr underlying470 1 kr 1 kr kr om om 1 om _)<|go [rd 1 10 0 1 1 h12,.s 1 11] ?_
 by_cases c17:y<0
 ·
  refine go [.v 1 11 (oT _ c17)] ?_
  exact enR _ [] h12.a.t1
 refine go [.v 1 11 (oF _ c17),.s 1 14]<|lwP (.pointer (some ⟨r10,1,none⟩)) (law_indexArr (x:=Ot 2) (i:=(Operand.const (iV 1))) (b:=r10) (off:=0) (z:=1) kr underlying470 1 kr 1 kr kr om om 1 om _)<|go [rd 1 15 0 1 1 h12,.s 1 17] ?_
 by_cases c19:y≥256
 ·
  refine go [.v 1 17 (oT _ c19)] ?_
  exact enR _ [] h12.a.t1
 refine go [.v 1 17 (oF _ c19),.s 3 0]<|lwP (.pointer (some ⟨r10,2,none⟩)) (law_indexArr (x:=Ot 2) (i:=(Operand.const (iV 2))) (b:=r10) (off:=0) (z:=2) kr underlying470 1 kr 2 kr kr om om 2 om _)<|go [rd 3 1 0 2 1 h12,.v 3 2 (oUr z)]<|cl0 call68 (gcheck_no z om) h12 fun _ h22=>g0 ?_
 exact enR _ [] h22.a.t1
theorem cdesc_ok(x y z:Int)(hz0:0≤z)(hz1:z≤4294967295)(ho:1≤x∧x≤3∧0≤y∧y≤255∧1≤z):HQ 281 [.agg #[iV x,iV y,uV z]] [] (iV 0) []:=by
 refine hiS func281 ntmps281 fun g w0 R h0=>g0<|nP 39 [iV x,iV y,uV z] h0 (fun _ _ h12=> ?_)
 refine go [rd 1 0 0 0 3 h12]<|cl0 call357 (ofdesc_ht x y z om om) h12 fun _ h14=>cl0 call351 (dcheckd_ok x y z om om om) h14 fun _ h16=>g0 ?_
 exact enR _ [] h16.a.t1
theorem cdesc_no(x y z:Int)(hz0:0≤z)(hz1:z≤4294967295)(ho: ¬(1≤x∧x≤3∧0≤y∧y≤255∧1≤z)):HQ 281 [.agg #[iV x,iV y,uV z]] [] (iV 2) []:=by
 refine hiS func281 ntmps281 fun g w0 R h0=>g0<|nP 39 [iV x,iV y,uV z] h0 (fun _ _ h12=> ?_)
 refine go [rd 1 0 0 0 3 h12]<|cl0 call357 (ofdesc_ht x y z om om) h12 fun _ h14=> ?_
 by_cases c15:1≤x
 ·
  by_cases c16:x≤3
  ·
   by_cases c17:0≤y
   ·
    by_cases c18:y≤255
    ·
     refine cl0 call351 (dcheckd_no x y z om om om) h14 fun _ h20=>g0 ?_
     exact enR _ [] h20.a.t1
    refine cl0 call351 (dcheckd_no x y z om om om) h14 fun _ h23=>g0 ?_
    exact enR _ [] h23.a.t1
   refine cl0 call351 (dcheckd_no x y z om om om) h14 fun _ h26=>g0 ?_
   exact enR _ [] h26.a.t1
  refine cl0 call351 (dcheckd_no x y z om om om) h14 fun _ h29=>g0 ?_
  exact enR _ [] h29.a.t1
 refine cl0 call351 (dcheckd_no x y z om om om) h14 fun _ h32=>g0 ?_
 exact enR _ [] h32.a.t1
theorem seq275_neq_t{n:Nat}{l:Fr}{o:Oper}{x y:Operand}(a0 a1 c0 c1:Int)(ho:o.op= .binOp .neq 275 x y 275)(hx:fe n l x= .agg #[iV a0,uV a1])(hy:fe n l y= .agg #[iV c0,uV c1])(h:a0=c0∧a1=c1)(w:World):(execOp (fe n l) o).run prog w= .ok (.value (.bool false)) w:=by
 obtain⟨rfl,rfl⟩:=h
 simp[execOp,ho,hx,hy,go_sem]
theorem seq275_neq_f{n:Nat}{l:Fr}{o:Oper}{x y:Operand}(a0 a1 c0 c1:Int)(ho:o.op= .binOp .neq 275 x y 275)(hx:fe n l x= .agg #[iV a0,uV a1])(hy:fe n l y= .agg #[iV c0,uV c1])(h: ¬(a0=c0∧a1=c1))(w:World):(execOp (fe n l) o).run prog w= .ok (.value (.bool true)) w:=by
 by_cases h0:a0=c0
 · skip
   by_cases h1:a1=c1
   · exact absurd ⟨h0,h1⟩ h
   · simp[execOp,ho,hx,hy,go_sem,h0,h1]
 · simp[execOp,ho,hx,hy,go_sem,h0]
theorem svalid_ht(b n:Nat)(A:List Sl2):HQ 183 [pV b] [Tb b n A] (.bool true) [Tb b n A]:=by
 refine hiS func183 ntmps183 fun g w0 R h0=> ?_
 obtain⟨T10,hp11,h12⟩:=tb_open h0
 have hq13:=hp11.2.1;have hq14:=hp11.2.2.1;have hq15:=hp11.2.2.2.2
 refine go [rd 1 6 0 0 1 h12,.v 1 7 (oT ((n:Int)>0))] ?_
 have h16:sat g _ (Tb b n A::_):=tb_close hp11 h12
 exact enR _ [] h16
theorem svalid_cl(b n:Nat)(B:List Sl2)(hn:1≤n):HQ 183 [pV b] [Cl b (tbl n B) 278] (.bool true) [Cl b (tbl n B) 278]:=by
 refine hiS func183 ntmps183 fun g w0 R h0=>go [rd 1 6 0 0 1 h0,.v 1 7 (oT ((n:Int)>0))] ?_
 exact enR _ [] h0
theorem check_range(b n:Nat)(A:List Sl2)(i gn:Int)(hi:i<0∨(n:Int)≤i):HQ 325 [pV b,.agg #[iV i,uV gn]] [Tb b n A] (iV 3) [Tb b n A]:=by
 refine hiS func325 ntmps325 fun g w0 R h0=> ?_
 obtain⟨T10,hp11,h12⟩:=tb_open h0
 have hq13:=hp11.2.1;have hq14:=hp11.2.2.1;have hq15:=hp11.2.2.2.2
 refine g0<|nP 203 [iV i,uV gn] h12 (fun r16 _ h18=> ?_)
 have h19:=h18.a.t3
 refine g0<|cl1 call183 (svalid_cl b n _ om) h19 fun _ h21=>g0<|dw (fls [0,1,2,3,4,5,6,7,8,9,10,11,12] Tr.nil) h21 fun w22 h23=>go [rd 3 1 1 0 1 h23,.s 3 2] ?_
 by_cases c24:i<0
 ·
  refine go [.v 3 2 (oT _ c24)] ?_
  have h25:sat g _ (Tb b n A::_):=tb_close hp11 h23
  exact enR _ [] h25.B.t2
 refine go [.v 3 2 (oF _ c24),rd 3 5 1 0 1 h23,rd 3 9 0 0 1 h23,.v 3 10 (oT (i≥(n:Int)))] ?_
 have h27:sat g _ (Tb b n A::_):=tb_close hp11 h23
 exact enR _ [] h27.B.t2
theorem check_ok(b n:Nat)(A:List Sl2)(q:Nat)(x:Sl2)(hx:A[q]? =some x)(i gn:Int)(hc:i=(q:Int)∧x.1=1∧x.2=gn):HQ 325 [pV b,.agg #[iV i,uV gn]] [Tb b n A] (iV 0) [Tb b n A]:=by
 refine hiS func325 ntmps325 fun g w0 R h0=> ?_
 obtain⟨T10,hp11,h12⟩:=tb_open h0
 have hq13:=hp11.2.1;have hq14:=hp11.2.2.1;have hq15:=hp11.2.2.2.2
 have hx_:=hp11.2.2.2.1 x (List.mem_of_getElem? hx)
 have hq_:q<n:=by have h_:=(List.getElem?_eq_some_iff.1 hx).1;rw[hp11.1] at h_;exact h_
 refine g0<|nP 203 [iV i,uV gn] h12 (fun r16 _ h18=> ?_)
 have h19:=h18.a.t3
 refine g0<|cl1 call183 (svalid_cl b n _ om) h19 fun _ h21=>g0<|dw (fls [0,1,2,3,4,5,6,7,8,9,10,11,12] Tr.nil) h21 fun _ h23=>go [rd 3 1 1 0 1 h23,.v 3 2 (oF (i<0)),rd 3 5 1 0 1 h23,rd 3 9 0 0 1 h23,.v 3 10 (oF (i≥(n:Int)))]<|dw (fls [0,1,2,3,4,5,6,7,8,9,10,11] Tr.nil) h23 fun w24 h25=>go [rd 5 2 1 0 1 h25,.s 5 5]<|lw (.pointer (some ⟨b,q*2+1,none⟩)) (fun _=>law_indexArr (x:=Ot 27) (i:=Ot 25) (b:=b) (off:=1) (z:=i) kr underlying276 2 kr q kr kr om om (q*2+1) om _)<|go [.r 5 6 b (q*2+1) [iV x.1,uV x.2] ⟨sat_cell h25 0 rfl (tbl_stk (app_get hx) om),sat_cell h25 0 rfl (tbl_genk (app_get hx) om),trivial⟩,rd 5 8 1 1 1 h25,.s 5 10]<|lw (.bool false) (fun _=>seq275_neq_t (x:=Ot 29) (y:=Ot 32) x.1 x.2 1 gn kr kr kr ⟨om,om⟩ _)<|g0 ?_
 have h26:sat g _ (Tb b n A::_):=tb_close hp11 h25
 exact enR _ [] h26.B.t2
theorem check_stale(b n:Nat)(A:List Sl2)(q:Nat)(x:Sl2)(hx:A[q]? =some x)(i gn:Int)(hc:i=(q:Int)∧ ¬(x.1=1∧x.2=gn)):HQ 325 [pV b,.agg #[iV i,uV gn]] [Tb b n A] (iV 7) [Tb b n A]:=by
 refine hiS func325 ntmps325 fun g w0 R h0=> ?_
 obtain⟨T10,hp11,h12⟩:=tb_open h0
 have hq13:=hp11.2.1;have hq14:=hp11.2.2.1;have hq15:=hp11.2.2.2.2
 have hx_:=hp11.2.2.2.1 x (List.mem_of_getElem? hx)
 have hq_:q<n:=by have h_:=(List.getElem?_eq_some_iff.1 hx).1;rw[hp11.1] at h_;exact h_
 refine g0<|nP 203 [iV i,uV gn] h12 (fun r16 _ h18=> ?_)
 have h19:=h18.a.t3
 refine g0<|cl1 call183 (svalid_cl b n _ om) h19 fun _ h21=>g0<|dw (fls [0,1,2,3,4,5,6,7,8,9,10,11,12] Tr.nil) h21 fun _ h23=>go [rd 3 1 1 0 1 h23,.v 3 2 (oF (i<0)),rd 3 5 1 0 1 h23,rd 3 9 0 0 1 h23,.v 3 10 (oF (i≥(n:Int)))]<|dw (fls [0,1,2,3,4,5,6,7,8,9,10,11] Tr.nil) h23 fun w24 h25=>go [rd 5 2 1 0 1 h25,.s 5 5]<|lw (.pointer (some ⟨b,q*2+1,none⟩)) (fun _=>law_indexArr (x:=Ot 27) (i:=Ot 25) (b:=b) (off:=1) (z:=i) kr underlying276 2 kr q kr kr om om (q*2+1) om _)<|go [.r 5 6 b (q*2+1) [iV x.1,uV x.2] ⟨sat_cell h25 0 rfl (tbl_stk (app_get hx) om),sat_cell h25 0 rfl (tbl_genk (app_get hx) om),trivial⟩,rd 5 8 1 1 1 h25,.s 5 10] ?_
 by_cases c26:x.1=1
 ·
  refine lw (.bool true) (fun _=>seq275_neq_f (x:=Ot 29) (y:=Ot 32) x.1 x.2 1 gn kr kr kr om _)<|g0 ?_
  have h27:sat g _ (Tb b n A::_):=tb_close hp11 h25
  exact enR _ [] h27.B.t2
 refine lw (.bool true) (fun _=>seq275_neq_f (x:=Ot 29) (y:=Ot 32) x.1 x.2 1 gn kr kr kr om _)<|g0 ?_
 have h29:sat g _ (Tb b n A::_):=tb_close hp11 h25
 exact enR _ [] h29.B.t2
theorem in_ht(b:Nat)(q:Int):HT prog 322 [pV b,iV q] [] (fun v K=> ∃c d,v= .func (Fn.func 392) #[] #[pV c,pV d]∧K= [Cl c [pV b] 171,Cl d [iV q] 3]):=by
 refine hiS func322 ntmps322 fun g w0 R h0=>g0<|nP 171 [pV b] h0 (fun r10 _ h12=> ?_)
 refine nP 3 [iV q] h12 (fun r13 _ h15=> ?_)
 refine g0 ?_
 exact en (.func (Fn.func 392) #[] #[pV r10,pV r13]) [] ⟨_,_,rfl,⟨r10,r13,rfl,rfl⟩,h15.a.t3⟩
theorem in_it(c d b n:Nat)(q:Int)(A:List Sl2)(hn1:1≤n)(hn2:n≤256):IT prog 392 [pV c,pV d] ((inS q A 0).length) (fun i=> [iV ((((inS q A 0).getD i (0,0)).1:Nat):Int),uV ((inS q A 0).getD i (0,0)).2]) [Cl c [pV b] 171,Cl d [iV q] 3,Tb b n A]:=by
 refine itS func392 ntmps392 fun g w0 R k_ J_ E_ hY h0=> ?_
 have h10:sat g _ (J_ 0::_):=h0
 have h11:=h10.c.t5
 refine go [rd 0 0 1 0 1 h10]<|cl1 call183 (svalid_ht b n A) h11 fun _ h13=> ?_
 obtain⟨T14,hp15,h16⟩:=tb_open h13
 have hq17:=hp15.2.1;have hq18:=hp15.2.2.1;have hq19:=hp15.2.2.2.2
 have hAl:=hp15.1
 refine g0<|dw (fls [0,1,2,3,4,5,6,7,8,9] Tr.nil) h16 fun w20 h21=>go [rd 1 0 2 0 1 h21,rd 1 3 2 0 1 h21,rd 1 6 0 0 1 h21,.s 1 7]<|lw (.slice (some ⟨b,1,none⟩) n 256) (fun _=>law_sliceArr (x:=Ot 11) (lo:=none) (hi:=(some (Ot 15))) (b:=b) (off:=1) kr underlying276 2 kr 0 (n:Int) 0 n kr rfl (show fe _ _ (Ot 15)=_ from by kernel_rfl) om om om om 1 (by split<;>omega) n 256 om om _) ?_
 have h22:sat g _ (Tb b n A::_):=tb_close hp15 h21
 refine g0 ?_
 refine lpS (fun mz_ a w=> ∃i:Nat,∃lr:Fr,mz_=n-i∧(i≤n)∧a=mk 36 (([(0,.func (Fn.yield k_) #[] #[]),(2,pV d),(16,.slice (some ⟨b,1,none⟩) n 256),(17,iV n),(18,iV i)]:Fr)++lr)∧sat g w [J_ (cnt q A i),Cl c [pV b] 171,Cl d [iV q] 3,Tb b n A,R]) (n-0) ⟨0,_,rfl,(Nat.zero_le _),(lvF [.k 0 (.func (Fn.yield k_) #[] #[]),.k 2 (pV d),.k 16 (.slice (some ⟨b,1,none⟩) n 256),.k 17 (iV n),.o 18 (oJ .i64 0 (0:Int))]),h22.c.c.c.t5⟩ ?_
 rintro m25 a26 w27 ⟨i,lr24,rfl,hi,rfl,h28⟩
 refine ga<|go [.s 2 0] ?_
 by_cases c29:(i:Int)<(n:Int)
 ·
  obtain⟨T31,hp32,h33⟩:=tb_open h28.c.t5
  have hq34:=hp32.2.1;have hq35:=hp32.2.2.1;have hq36:=hp32.2.2.2.2
  refine go [.v 2 0 (oT _ c29),.s 3 1]<|lwP (.pointer (some ⟨b,i*2+1,none⟩)) (liS (Ot 16) (Ot 18) b 1 (i:Int) n 256 underlying508 2 i (i*2+1)) ?_
  obtain⟨x37,hx38⟩: ∃x:Sl2,A[i]? =some x:=⟨_,List.getElem?_eq_getElem (by rw[hp32.1];omega)⟩
  have hb39:=hp32.2.2.2.1 x37 (List.mem_of_getElem? hx38)
  refine go [.r 3 2 b (i*2+1) [iV x37.1,uV x37.2] ⟨sat_cell h33 0 rfl (tbl_stk (app_get hx38) om),sat_cell h33 0 rfl (tbl_genk (app_get hx38) om),trivial⟩]<|nP 275 [iV 0,uV 0] h33 (fun r40 _ h42=> ?_)
  refine g0<|sA [iV x37.1,uV x37.2] h42 fun w43 h44=> ?_
  have h46:sat g _ (Tb b n A::_):=tb_close hp32 h44.a.t6
  refine go [.s 4 99999] ?_
  refine plS 9<|go [rd 4 1 1 0 1 h46,rd 4 2 4 0 1 h46,.s 4 3] ?_
  by_cases c47:x37.1=q
  ·
   have h48:=h46.d.d.d.t6
   refine go [.v 4 3 (qeT _ _ c47),rd 4 8 1 1 1 h46] ?_
   refine yY 4 (args:= [iV i,uV x37.2]) (xa:=(fun i=> [iV ((((inS q A 0).getD i (0,0)).1:Nat):Int),uV ((inS q A 0).getD i (0,0)).2]) (cnt q A i)) (by show [iV ((((inS q A 0).getD (cnt q A i) (0,0)).1:Nat):Int),uV ((inS q A 0).getD (cnt q A i) (0,0)).2]=_;rw[getD_some (inS_at hx38 om)]) (hY (cnt q A i) ((List.getElem?_eq_some_iff.1 (inS_at (q:=q) hx38 om)).1) _ [Cl r40 [iV x37.1,uV x37.2] 275,R] h48) ?_ ?_
   ·
    intro w49 h50
    have h51:sat g _ (J_ ((cnt q A i)+1)::_):=h50
    have hlt52:=((List.getElem?_eq_some_iff.1 (inS_at (q:=q) hx38 om)).1:(cnt q A i)<((inS q A 0).length))
    refine go [.v 5 0 (oIr ((i:Int)+1))] ?_
    refine enL ?_
    have h53:sat g w49 [J_ (cnt q A (i+1)),Cl c [pV b] 171,Cl d [iV q] 3,Tb b n A,Cl r40 [iV x37.1,uV x37.2] 275,R]:=(show (cnt q A i)+1=(cnt q A (i+1)) from (cnt_go hx38 om).symm)▸h51
    have h55:=tk5 h53.e.d.d.d.d.t6
    change ∃n',n'<_∧_
    refine⟨(n-(i+1)),by omega,(i+1),_,rfl,om,(lvF [.k 0 (.func (Fn.yield k_) #[] #[]),.k 2 (pV d),.k 16 (.slice (some ⟨b,1,none⟩) n 256),.k 17 (iV n),.o 18 (oJ .i64 ((i:Int)+1) (((i+1):Nat):Int))]),h55⟩
   intro w56 h57
   have h58:sat g _ (E_ (cnt q A i)::_):=h57
   have hlt59:=((List.getElem?_eq_some_iff.1 (inS_at (q:=q) hx38 om)).1:(cnt q A i)<((inS q A 0).length))
   refine g0<|up<|g0 ?_
   exact en (.tuple #[]) [] ⟨⟨_,rfl⟩,.inr ⟨(cnt q A i),om,(tk2 h58.b.a.t3)⟩⟩
  refine go [.v 4 3 (qeF _ _ c47)] ?_
  refine yN 4<|go [.v 5 0 (oIr ((i:Int)+1))] ?_
  refine enL ?_
  have h62:=h46.b.t6
  have h63:sat g w43 [J_ (cnt q A (i+1)),Tb b n A,Cl r40 [iV x37.1,uV x37.2] 275,Cl c [pV b] 171,Cl d [iV q] 3,R]:=(show (cnt q A i)=(cnt q A (i+1)) from (cnt_no hx38 om).symm)▸h62
  have h65:=tk5 h63.e.b.e.e.d.t6
  change ∃n',n'<_∧_
  refine⟨(n-(i+1)),by omega,(i+1),_,rfl,om,(lvF [.k 0 (.func (Fn.yield k_) #[] #[]),.k 2 (pV d),.k 16 (.slice (some ⟨b,1,none⟩) n 256),.k 17 (iV n),.o 18 (oJ .i64 ((i:Int)+1) (((i+1):Nat):Int))]),h65⟩
 refine go [.v 2 0 (oF _ c29)]<|up<|g0 ?_
 have he_:(cnt q A i)=((inS q A 0).length):=(cnt_all q om)
 exact en (.tuple #[]) [] ⟨⟨_,rfl⟩,.inl (he_▸h28)⟩
theorem take_ht(b n:Nat)(A:List Sl2):HQ 231 [pV b] [Tb b n A] (.tuple #[.agg #[iV (takeV A).1,uV (takeV A).2.1],iV (takeV A).2.2]) [Tb b n (takeA A)]:=by
 refine hiS func231 ntmps231 fun g w0 R h0=>g0<|nP 171 [pV b] h0 (fun r10 _ h12=> ?_)
 refine nP 203 [iV 0,uV 0] h12 (fun r13 _ h15=> ?_)
 refine nP 29 [iV 0] h15 (fun r16 _ h18=> ?_)
 have h19:=h18.c.t5
 refine go [rd 1 0 2 0 1 h18]<|cl1 call183 (svalid_ht b n A) h19 fun _ h21=>go [rd 3 0 3 0 1 h21]<|cP call322 (in_ht b 0) h21 ?_
 rintro v K _ (⟨b22,b23,rfl,rfl⟩) h25
 have h26:=ap2 h25
 have hb27:=tb_bd (j:=2) h26 rfl
 have hb28:=hb27.2.1;have hb29:=hb27.2.2.1
 have h30:=h26.c.d.e.t7
 refine g0 ?_
 refine rfS (N:=((inS 0 A 0).length)) (fun i K=>(i=0)∧K= [Cl r10 [pV b] 171,Cl r13 [iV 0,uV 0] 203,Cl r16 [iV 0] 29]) (fun c i K=>(c=Code.ret∧(i=0)∧K= [Cl r10 [pV b] 171,Cl r13 [iV ((((inS 0 A 0).getD i (0,0)).1:Nat):Int),uV (((inS 0 A 0).getD i (0,0)).2)] 203,Cl r16 [iV 0] 29,Tb b n (A.set ((inS 0 A 0).getD i (0,0)).1 (1,((inS 0 A 0).getD i (0,0)).2))])) call392 (in_it b22 b23 b n 0 A om om) ⟨rfl,rfl⟩ h30 ?_ ?_ ?_
 ·
  rintro i hi33 lp_ w31 K_ G ⟨hz0,rfl⟩ h32
  have h34:sat g _ (Cl r10 [pV b] 171::_):=h32
  obtain⟨x0,hx0,hx1,hx2⟩: ∃x:Sl2,A[((inS 0 A 0).getD i (0,0)).1]? =some x∧x.1=0∧x.2=((inS 0 A 0).getD i (0,0)).2:=⟨_,inS_get hi33,rfl,rfl⟩
  have hlt_:((inS 0 A 0).getD i (0,0)).1<n:=by have h_:=(List.getElem?_eq_some_iff.1 hx0).1;rw[hb27.1] at h_;exact h_
  obtain⟨T36,hp37,h38⟩:=tb_open h34.e.t7
  have hq39:=hp37.2.1;have hq40:=hp37.2.2.1;have hq41:=hp37.2.2.2.2
  refine go [rd 6 0 1 0 1 h38,.s 6 4]<|lwP (.pointer (some ⟨b,(((inS 0 A 0).getD i (0,0)).1)*2+1,none⟩)) (law_indexArr (x:=Ot 17) (i:=Ot 15) (b:=b) (off:=1) (z:=((((inS 0 A 0).getD i (0,0)).1:Nat):Int)) kr underlying276 2 kr (((inS 0 A 0).getD i (0,0)).1) kr kr om om ((((inS 0 A 0).getD i (0,0)).1)*2+1) om _)<|g0 ?_
  refine actG ?_
  refine an_store [((((inS 0 A 0).getD i (0,0)).1)*2+1,iV 1)] (cs':=(tbl n ((A.set (((inS 0 A 0).getD i (0,0)).1) (1,x0.2))++T36))) kr kr (allq ⟨⟨by rw[tbl_len];omega,rfl⟩,trivial⟩) (tbl_putSk hx0 1 om) h38 ?_
  intro w42 h43
  refine nxB ?_
  have h44:sat g _ (Tb b n (A.set (((inS 0 A 0).getD i (0,0)).1) (1,x0.2))::_):=tb_close ⟨by simp only[List.length_set];exact hp37.1,hp37.2.1,hp37.2.2.1,(slOk_set hp37.2.2.2.1 (by have hk_:=hp37.2.2.2.1 _ (List.mem_of_getElem? hx0);omega)),by have h_:=hp37.2.2.2.2;simpa using h_⟩ h43
  have h45:=h44.b.t7
  refine g0<|sA [iV ((((inS 0 A 0).getD i (0,0)).1:Nat):Int),uV (((inS 0 A 0).getD i (0,0)).2)] h45 fun _ h47=>sA [iV 0] h47.c.t7 fun w49 h50=>g0 ?_
  have h51:=h50.b.t7
  have h52:sat g w49 [Tb b n (A.set ((inS 0 A 0).getD i (0,0)).1 (1,((inS 0 A 0).getD i (0,0)).2)),Cl r16 [iV 0] 29,Cl r13 [iV ((((inS 0 A 0).getD i (0,0)).1:Nat):Int),uV (((inS 0 A 0).getD i (0,0)).2)] 203,Cl r10 [pV b] 171,Cl b22 [pV b] 171,Cl b23 [iV 0] 3,G]:=(show (1,x0.2)=((1,((inS 0 A 0).getD i (0,0)).2):Sl2) from by rw[hx2])▸h51
  exact rbR ⟨rfl,hz0,rfl⟩ (tk5 h52.f.a.b.c.d.t7)
 ·
  rintro D55 w56 K_ ⟨hz0,rfl⟩ h57
  have h58:sat g _ (pt D55 (Obj.deferred (some []))::_):=h57
  have h59:=h58.b.t8
  refine g0<|sA [iV 0,uV 0] h59 fun _ h61=>sA [iV 4] h61.c.t8 fun _ h64=>g0 ?_
  refine enD (.tuple #[.agg #[iV 0,uV 0],iV 4]) h64.b.t8 (fun w67 h66=> [rd 0 0 2 0 2 h66,rd 0 0 1 0 1 h66]) (fun w67 h66=> ?_) [iV 0,uV 0,iV 4] [(⟨r13,0,none⟩,iV 0),(⟨r13,1,none⟩,uV 0),(⟨r16,0,none⟩,iV 4)]
  exact⟨_,[Tb b n A],rfl,⟨by rw[(take_none om).1],by rw[(take_none om).2]⟩,(tk2 (sf1 (sf7 h66.f.t8)))⟩
 rintro D70 w71 ex_ i K_ hi73 (⟨rfl,hz0,rfl⟩) h72
 have h74:sat g _ (pt D70 (Obj.deferred (some []))::_):=h72
 refine g0 ?_
 refine enD (.tuple #[.agg #[iV ((((inS 0 A 0).getD i (0,0)).1:Nat):Int),uV (((inS 0 A 0).getD i (0,0)).2)],iV 0]) h74 (fun w76 h75=> [rd 0 0 2 0 2 h75,rd 0 0 3 0 1 h75]) (fun w76 h75=> ?_) [iV ((((inS 0 A 0).getD i (0,0)).1:Nat):Int),uV (((inS 0 A 0).getD i (0,0)).2),iV 0] [(⟨r13,0,none⟩,iV ((((inS 0 A 0).getD i (0,0)).1:Nat):Int)),(⟨r13,1,none⟩,uV (((inS 0 A 0).getD i (0,0)).2)),(⟨r16,0,none⟩,iV 0)]
 exact⟨_,[Tb b n (A.set ((inS 0 A 0).getD i (0,0)).1 (1,((inS 0 A 0).getD i (0,0)).2))],rfl,⟨by obtain rfl:i=0:=(by omega);rw[(take_some om).1],by obtain rfl:i=0:=(by omega);rw[(take_some om).2]⟩,(tk2 (sf1 (sf5 h75.d.t6)))⟩
theorem snew_ok(n:Nat)(hn:1≤n∧n≤256)(gn:Int)(hgn:1≤gn∧gn≤4294967295):HT prog 67 [iV n,uV gn] [] (fun v K=> ∃b:Nat,v= .tuple #[pV b,iV 0]∧K= [Tb b n (List.replicate n (0,gn))]):=by
 refine hiS func67 ntmps67 fun g w0 R h0=>go [.v 1 1 (oF ((n:Int)<1)),.v 1 4 (oF ((n:Int)>256))]<|cl0 call68 (gcheck_ok gn om om) h0 fun _ h11=>g0 ?_
 refine actG ?_
 refine an_new (d:=21) (fun xb_=>pV xb_) (fun xb_=>Obj.cells (tbl n (List.replicate 256 (0,0))).toArray 278 (0,0)) (fun xb_=>by kernel_rfl) kr rfl h11 ?_
 intro r12 w13 (h14:sat g w13 [Cl r12 (tbl n (List.replicate 0 (0,gn)++List.replicate (256-0) (0,0))) 278,R])
 refine nxA<|g0 ?_
 refine lpS (fun mz_ a w=> ∃i:Nat,∃lr:Fr,mz_=n-i∧(i≤n)∧a=mk 35 (([(1,uV gn),(6,pV r12),(22,iV n),(23,iV i)]:Fr)++lr)∧sat g w [Cl r12 (tbl n (List.replicate i (0,gn)++List.replicate (256-i) (0,0))) 278,R]) (n-0) ⟨0,_,rfl,(Nat.zero_le _),(lvF [.k 1 (uV gn),.k 6 (pV r12),.k 22 (iV n),.o 23 (oJ .i64 0 (0:Int))]),h14⟩ ?_
 rintro m16 a17 w18 ⟨i,lr15,rfl,hi,rfl,h19⟩
 refine ga<|go [.s 5 0] ?_
 by_cases c20:(i:Int)<(n:Int)
 ·
  refine go [.v 5 0 (oT _ c20),.s 7 5]<|lwP (.pointer (some ⟨r12,i*2+1,none⟩)) (law_indexArr (x:=Ot 30) (i:=Ot 27) (b:=r12) (off:=1) (z:=(i:Int)) kr underlying276 2 kr i kr kr om om (i*2+1) om _)<|g0 ?_
  refine actG ?_
  refine an_store [(i*2+2,uV gn)] (cs':=(tbl n (List.replicate (i+1) (0,gn)++List.replicate (256-(i+1)) (0,0)))) kr kr (allq ⟨⟨by rw[tbl_len,List.length_append,List.length_replicate,List.length_replicate];omega,rfl⟩,trivial⟩) (new_put (i:=i) om om) h19 ?_
  intro _ h22
  refine nxB<|go [.v 8 0 (oIr ((i:Int)+1))] ?_
  exact enN (n-(i+1)) ⟨(i+1),_,rfl,om,(lvF [.k 1 (uV gn),.k 6 (pV r12),.k 22 (iV n),.o 23 (oJ .i64 ((i:Int)+1) (((i+1):Nat):Int))]),h22⟩
 refine go [.v 5 0 (oF _ c20)]<|up<|g0 ?_
 obtain rfl:i=n:=by omega
 have h23:sat g _ (Tb r12 i (List.replicate i (0,gn))::_):=tb_close (new_ok om om om om) h19
 exact en (.tuple #[pV r12,iV 0]) [] ⟨_,_,rfl,⟨r12,rfl,rfl⟩,h23⟩
theorem free1_y(s gn:Int)(hs:s=0):HQ 356 [.agg #[iV s,uV gn]] [] (.bool true) []:=by
 refine hiS func356 ntmps356 fun g w0 R h0=>g0<|nP 275 [iV s,uV gn] h0 (fun _ _ h12=> ?_)
 refine go [rd 1 1 0 0 1 h12,.v 1 2 (qeT s 0)] ?_
 exact enR _ [] h12.a.t1
theorem free1_n(s gn:Int)(hs: ¬s=0):HQ 356 [.agg #[iV s,uV gn]] [] (.bool false) []:=by
 refine hiS func356 ntmps356 fun g w0 R h0=>g0<|nP 275 [iV s,uV gn] h0 (fun _ _ h12=> ?_)
 refine go [rd 1 1 0 0 1 h12,.v 1 2 (qeF s 0)] ?_
 exact enR _ [] h12.a.t1
theorem count0_ht(b n:Nat)(A:List Sl2):HQ 355 [pV b,.func (Fn.func 356) #[] #[]] [Tb b n A] (iV (((inS 0 A 0).length:Nat):Int)) [Tb b n A]:=by
 refine hiS func355 ntmps355 fun g w0 R h0=> ?_
 obtain⟨T10,hp11,h12⟩:=tb_open h0
 have hq13:=hp11.2.1;have hq14:=hp11.2.2.1;have hq15:=hp11.2.2.2.2
 have hAl:=hp11.1
 refine g0<|cl1 call183 (svalid_cl b n _ om) h12 fun _ h17=>g0<|dw (fls [0,1,2,3,4,5,6,7,8,9] Tr.nil) h17 fun _ h19=>go [rd 4 6 0 0 1 h19,.s 4 7]<|lw (.slice (some ⟨b,1,none⟩) n 256) (fun _=>law_sliceArr (x:=Ot 13) (lo:=none) (hi:=(some (Ot 17))) (b:=b) (off:=1) kr underlying276 2 kr 0 (n:Int) 0 n kr rfl (show fe _ _ (Ot 17)=_ from by kernel_rfl) om om om om 1 (by split<;>omega) n 256 om om _)<|g0 ?_
 have c:cnt 0 A 0=0:=rfl
 refine lpS (fun mz_ a w=> ∃i:Nat,∃lr:Fr,mz_=n-i∧(i≤n)∧a=mk 31 (([(1,.func (Fn.func 356) #[] #[]),(5,iV ((cnt 0 A i:Nat):Int)),(18,.slice (some ⟨b,1,none⟩) n 256),(19,iV n),(20,iV i)]:Fr)++lr)∧sat g w [Cl b (tbl n (A++T10)) 278,R]) (n-0) ⟨0,_,rfl,(Nat.zero_le _),(lvF [.k 1 (.func (Fn.func 356) #[] #[]),.o 5 (oJ .i64 0 ((cnt 0 A 0:Nat):Int)),.k 18 (.slice (some ⟨b,1,none⟩) n 256),.k 19 (iV n),.o 20 (oJ .i64 0 (0:Int))]),h19⟩ ?_
 rintro m21 a22 w23 ⟨i,lr20,rfl,hi,rfl,h24⟩
 refine ga ?_
 have d:=cnt_le 0 A i;have e:=inS_len 0 A 0
 have f:cnt 0 A i≤n:=by omega
 refine go [.s 5 0] ?_
 by_cases c25:(i:Int)<(n:Int)
 ·
  refine go [.v 5 0 (oT _ c25),.s 6 0]<|lwP (.pointer (some ⟨b,i*2+1,none⟩)) (liS (Ot 18) (Ot 20) b 1 (i:Int) n 256 underlying508 2 i (i*2+1)) ?_
  obtain⟨x26,hx27⟩: ∃x:Sl2,A[i]? =some x:=⟨_,List.getElem?_eq_getElem (by rw[hp11.1];omega)⟩
  have hb28:=hp11.2.2.2.1 x26 (List.mem_of_getElem? hx27)
  refine go [.r 6 1 b (i*2+1) [iV x26.1,uV x26.2] ⟨sat_cell h24 0 rfl (tbl_stk (app_get hx27) om),sat_cell h24 0 rfl (tbl_genk (app_get hx27) om),trivial⟩]<|nP 275 [iV 0,uV 0] h24 (fun _ _ h31=> ?_)
  refine sA [iV x26.1,uV x26.2] h31 fun _ h33=>go [rd 7 1 0 0 2 h33] ?_
  by_cases c34:x26.1=0
  ·
   refine cl0 call356 (free1_y x26.1 x26.2 om) h33 fun _ h36=>go [.v 8 1 (oIr (((cnt 0 A i:Nat):Int)+1)),.v 9 0 (oIr ((i:Int)+1))] ?_
   refine enL ?_
   have hc_:cnt 0 A (i+1)=(cnt 0 A i)+1:=cnt_go hx27 om
   have h38:=tk2 h36.b.b.t3
   change ∃n',n'<_∧_
   refine⟨(n-(i+1)),by omega,(i+1),_,rfl,om,(lvF [.k 1 (.func (Fn.func 356) #[] #[]),.o 5 (oJ .i64 (((cnt 0 A i:Nat):Int)+1) ((cnt 0 A (i+1):Nat):Int)),.k 18 (.slice (some ⟨b,1,none⟩) n 256),.k 19 (iV n),.o 20 (oJ .i64 ((i:Int)+1) (((i+1):Nat):Int))]),h38⟩
  refine cl0 call356 (free1_n x26.1 x26.2 om) h33 fun _ h40=>go [.v 9 0 (oIr ((i:Int)+1))] ?_
  refine enL ?_
  have hc_:cnt 0 A (i+1)=(cnt 0 A i):=cnt_no hx27 om
  have h42:=tk2 h40.b.b.t3
  change ∃n',n'<_∧_
  refine⟨(n-(i+1)),by omega,(i+1),_,rfl,om,(lvF [.k 1 (.func (Fn.func 356) #[] #[]),.o 5 (oJ .i64 ((cnt 0 A i:Nat):Int) ((cnt 0 A (i+1):Nat):Int)),.k 18 (.slice (some ⟨b,1,none⟩) n 256),.k 19 (iV n),.o 20 (oJ .i64 ((i:Int)+1) (((i+1):Nat):Int))]),h42⟩
 refine go [.v 5 0 (oF _ c25)]<|up<|g0 ?_
 have hc_:cnt 0 A i=(inS 0 A 0).length:=cnt_all 0 om
 have h43:sat g _ (Tb b n A::_):=tb_close hp11 h24
 exact en (iV ((cnt 0 A i:Nat):Int)) [] ⟨_,_,rfl,⟨by rw[hc_],rfl⟩,h43⟩
theorem sfree_ht(b n:Nat)(A:List Sl2):HQ 279 [pV b] [Tb b n A] (iV (((inS 0 A 0).length:Nat):Int)) [Tb b n A]:=by
 refine hiS func279 ntmps279 fun g w0 R h0=>g0<|cl1 call355 (count0_ht b n A) h0 fun _ h11=>g0 ?_
 exact enR _ [] h11
theorem taken_ht(b n:Nat)(A:List Sl2):HT prog 459 [pV b] [Tb b n A] (fun v K=> ∃(p:Option Addr) (c:Nat),v= .slice p ((inS 1 A 0).length) c∧K= [Tb b n A,Sl 203 2 p ((inS 1 A 0).length) c (fl eRf (inS 1 A 0))]):=by
 refine hiS func459 ntmps459 fun g w0 R h0=>g0<|nP 392 [.slice none 0 0] h0 (fun r10 _ h12=> ?_)
 refine g0<|cP call322 (in_ht b 1) h12 ?_
 rintro v K w15 (⟨b13,b14,rfl,rfl⟩) h16
 have h17:=ap2 h16
 have hb18:=tb_bd (j:=3) h17 rfl
 have hb19:=hb18.2.1;have hb20:=hb18.2.2.1
 have hl_:((inS 1 A 0).length)≤256:=by have h_:=inS_len 1 A 0;omega
 have hz_:(inS 1 A 0).take 0= []:=rfl
 have h21:sat g _ (Sl 203 2 none 0 0 (fl eRf [])::_):=sl_nil 203 2 h17
 have h22:=h21.c.t6
 refine g0 ?_
 refine rfS (N:=((inS 1 A 0).length)) (fun i K=> ∃p:Option Addr,∃c:Nat,K= [Cl r10 [.slice p i c] 392,Sl 203 2 p i c (fl eRf ((inS 1 A 0).take i))]) (fun c _ K=>False) call392 (in_it b13 b14 b n 1 A om om) ⟨none,0,rfl⟩ h22 ?_ ?_ ?_
 ·
  rintro i hi25 lp_ w23 K_ G ⟨p,c,rfl⟩ h24
  have h26:sat g _ (Cl r10 [.slice p i c] 392::_):=h24
  refine go [rd 5 0 0 0 1 h26]<|nG (fun q_=> .slice (some ⟨q_,0,none⟩) 1 1) 203 [iV ((((inS 1 A 0).getD i (0,0)).1:Nat):Int),uV (((inS 1 A 0).getD i (0,0)).2)] h26 (fun r27 _ h29=>⟨kd [],?_⟩)
  have h30:=h29.b.t7
  refine actG ?_
  refine aA 15 2 (Ot 10) (Ot 14) (.agg #[iV 0,uV 0]) p i c 1 1 (⟨r27,0,none⟩) 16 underlying392 h30 (fl eRf [((((inS 1 A 0).getD i (0,0)).1),((inS 1 A 0).getD i (0,0)).2)]) rfl (cell1 h30 rfl) (fl_one eRf_ok _) (i+1) ?_
  intro p31 cap32 w33 h34
  have h35:sat g _ (Sl 203 2 p31 (i+1) cap32 (fl eRf (((inS 1 A 0).take i)++ [((((inS 1 A 0).getD i (0,0)).1),((inS 1 A 0).getD i (0,0)).2)]))::_):=sJ h34
  obtain⟨hn36,hn37⟩:=sl_le h35
  refine nxA<|sA [.slice p31 (i+1) cap32] h35.b.t7 fun w39 h40=>g0 ?_
  have h41:=h40.a.t7
  have h42:sat g w39 [Sl 203 2 p31 (i+1) cap32 (fl eRf ((inS 1 A 0).take (i+1))),Cl r10 [.slice p31 (i+1) cap32] 392,Cl r27 [iV ((((inS 1 A 0).getD i (0,0)).1:Nat):Int),uV (((inS 1 A 0).getD i (0,0)).2)] 203,Cl b13 [pV b] 171,Cl b14 [iV 1] 3,Tb b n A,G]:=(show (((inS 1 A 0).take i)++ [((((inS 1 A 0).getD i (0,0)).1),((inS 1 A 0).getD i (0,0)).2)])=((inS 1 A 0).take (i+1)) from take_getD om)▸h41
  exact rbN ⟨p31,cap32,rfl⟩ (tk6 h42.f.f.f.f.d.e.t7)
 ·
  rintro D45 w46 K_ ⟨p,c,rfl⟩ h47
  have h48:sat g _ (pt D45 (Obj.deferred (some []))::_):=h47
  have h50:sat g _ (Sl 203 2 p ((inS 1 A 0).length) c (fl eRf (inS 1 A 0))::_):=sat_imp h48.b.t7 (fun _ hh=>by rw[List.take_length] at hh;exact hh)
  refine go [rd 6 0 2 0 1 h50] ?_
  refine enD (.slice p ((inS 1 A 0).length) c) h50.a.t7 (fun _ _=> []) (fun _ h52=> ?_) [] []
  exact⟨_,_,rfl,⟨p,c,rfl,rfl⟩,(tk3 (sf2 (sf2 (sf6 h52.a.e.t7))))⟩
 intro _ _ _ _ _ _ hf_;exact hf_.elim
theorem give_ht(b n:Nat)(A:List Sl2)(q:Nat)(x:Sl2)(hx:A[q]? =some x)(ix gn:Int)(hc:ix=(q:Int)∧x.1=1∧x.2=gn):HQ 382 [pV b,.agg #[iV ix,uV gn]] [Tb b n A] (iV 0) [Tb b n (giveA A q gn)]:=by
 refine hiS func382 ntmps382 fun g w0 R h0=> ?_
 have hb10:=tb_bd (j:=0) h0 rfl
 have hq_:q<n:=by have h_:=(List.getElem?_eq_some_iff.1 hx).1;rw[hb10.1] at h_;exact h_
 have hx_:=hb10.2.2.2 x (List.mem_of_getElem? hx)
 have c:=hb10.2.1;have d:=hb10.2.2.1;have e:=hb10.2.2.2
 refine g0<|nP 203 [iV ix,uV gn] h0 (fun r11 _ h13=> ?_)
 have h14:=h13.a.t3
 refine go [rd 1 1 0 0 2 h13]<|cl1 call325 (check_ok b n A q x hx ix gn om) h14 fun _ h16=>go [rd 4 1 1 1 1 h16] ?_
 by_cases c17:gn<4294967295
 ·
  refine cl0 call426 (next_ok gn om om) h16 fun _ h19=> ?_
  obtain⟨T20,hp21,h22⟩:=tb_open h19
  have hq23:=hp21.2.1;have hq24:=hp21.2.2.1;have hq25:=hp21.2.2.2.2
  refine g0<|dw (fls [0,1,2,3,4,5,6,7] (Tr.an 8 Tr.nil)) h22 fun _ h27=>go [rd 6 2 1 0 1 h27,.s 6 7]<|lw (.pointer (some ⟨b,q*2+1,none⟩)) (fun _=>law_indexArr (x:=Ot 29) (i:=Ot 25) (b:=b) (off:=1) (z:=ix) kr underlying276 2 kr q kr kr om om (q*2+1) om _) ?_
  refine actG ?_
  refine an_store [(q*2+1,iV 0),(q*2+2,uV (gn+1))] (cs':=(tbl n ((A.set q (0,gn+1))++T20))) kr kr (allq ⟨⟨by rw[tbl_len];omega,rfl⟩,⟨by rw[tbl_len];omega,rfl⟩,trivial⟩) (tbl_put2k hx 0 (gn+1) om om) h27 ?_
  intro w28 h29
  refine⟨kd [],nxN ?_⟩
  have hA_:(A.set q (0,gn+1))=giveA A q gn:=by unfold giveA;rw[if_pos om]
  have h30:sat g w28 [Cl b (tbl n ((giveA A q gn)++T20)) 278,Cl r11 [iV ix,uV gn] 203,R]:=hA_▸h29
  have h31:sat g _ (Tb b n (giveA A q gn)::_):=tb_close ⟨by unfold giveA;split<;>(rw[List.length_set];exact hp21.1),hp21.2.1,hp21.2.2.1,slOk_give hp21.2.2.2.1 hx om,by have h_:=hp21.2.2.2.2;rw[List.length_append] at h_ ⊢;unfold giveA;split<;>(rw[List.length_set];exact h_)⟩ h30
  refine g0 ?_
  exact enR _ [] h31.B.t2
 refine cl0 call426 (next_no gn om) h16 fun _ h34=> ?_
 obtain⟨T35,hp36,h37⟩:=tb_open h34
 have hq38:=hp36.2.1;have hq39:=hp36.2.2.1;have hq40:=hp36.2.2.2.2
 refine g0<|dw (fls [0,1,2,3,4,5,6] (Tr.an 7 Tr.nil)) h37 fun _ h42=>go [rd 7 2 1 0 1 h42,.s 7 5]<|lw (.pointer (some ⟨b,q*2+1,none⟩)) (fun _=>law_indexArr (x:=Ot 35) (i:=Ot 33) (b:=b) (off:=1) (z:=ix) kr underlying276 2 kr q kr kr om om (q*2+1) om _)<|g0 ?_
 refine actG ?_
 refine an_store [(q*2+1,iV 2)] (cs':=(tbl n ((A.set q (2,x.2))++T35))) kr kr (allq ⟨⟨by rw[tbl_len];omega,rfl⟩,trivial⟩) (tbl_putSk hx 2 om) h42 ?_
 intro w43 h44
 refine⟨kd [],nxN ?_⟩
 have hA_:(A.set q (2,x.2))=giveA A q gn:=by unfold giveA;rw[if_neg om,show x.2=gn from by omega]
 have h45:sat g w43 [Cl b (tbl n ((giveA A q gn)++T35)) 278,Cl r11 [iV ix,uV gn] 203,R]:=hA_▸h44
 have h46:sat g _ (Tb b n (giveA A q gn)::_):=tb_close ⟨by unfold giveA;split<;>(rw[List.length_set];exact hp36.1),hp36.2.1,hp36.2.2.1,slOk_give hp36.2.2.2.1 hx om,by have h_:=hp36.2.2.2.2;rw[List.length_append] at h_ ⊢;unfold giveA;split<;>(rw[List.length_set];exact h_)⟩ h45
 refine g0 ?_
 exact enR _ [] h46.B.t2
theorem scopy_ht(b n:Nat)(A:List Sl2):HT prog 120 [pV b] [Tb b n A] (fun v K=> ∃b2:Nat,v=pV b2∧K= [Tb b n A,Tb b2 n A]):=by
 refine hiS func120 ntmps120 fun g w0 R h0=>g0<|cl1 call183 (svalid_ht b n A) h0 fun _ h11=> ?_
 obtain⟨T12,hp13,h14⟩:=tb_open h11
 have hq15:=hp13.2.1;have hq16:=hp13.2.2.1;have hq17:=hp13.2.2.2.2
 refine go [.s 3 2]<|lwP (.agg (tbl n (A++T12)).toArray) (law_loadRow (x:=Ot 8) kr 0 h14 rfl _ rfl underlying278 (by rw[tbl_len,hp13.2.2.2.2];kernel_rfl) kr) ?_
 refine actG ?_
 refine an_new (d:=3) (fun xb_=>pV xb_) (fun xb_=>Obj.cells (tbl 0 (List.replicate 256 (0,0))).toArray 278 (0,0)) (fun xb_=>by kernel_rfl) kr rfl h14 ?_
 intro r18 w19 (h20:sat g w19 [Cl r18 (tbl 0 (List.replicate 256 (0,0))) 278,Cl b (tbl n (A++T12)) 278,R])
 refine nxA ?_
 refine actG ?_
 refine an_storeRow (t:=278) (x:=Ot 3) (y:=Ot 9) (cs:=(tbl n (A++T12))) kr kr h20 (by rw[tbl_len,hp13.2.2.2.2];kernel_rfl) (by rw[tbl_len,tbl_len,hp13.2.2.2.2,List.length_replicate]) (tbl_one _ _) kr kr ?_
 intro w21 h22
 refine nxB<|g0 ?_
 have h23:sat g _ (Tb r18 n A::_):=tb_close hp13 h22
 have h25:sat g _ (Tb b n A::_):=tb_close hp13 h23.a.t3
 exact en (pV r18) [] ⟨_,_,rfl,⟨r18,rfl,rfl⟩,h25⟩
end Go.Proofs.YtcgkoffnknpgjaaGreatDoor
