/-
  Tables of slots and of files, as lR functions of lists. No program in sight.
-/
import Derived.Test.YtcgkoffnknpgjaaGreatDoorHqx
import Derived.Test.YtcgkoffnknpgjaaGreatDoorRf4x
import Derived.Test.YtcgkoffnknpgjaaGreatDoorSrgx
import Derived.Test.YtcgkoffnknpgjaaGreatDoorMpgx
namespace Go.Proofs.YtcgkoffnknpgjaaGreatDoor
set_option linter.unusedVariables false
set_option linter.unusedSimpArgs false
open Tryz
set_option maxHeartbeats 4000000
abbrev AM:=Int×Int
def mP(s:AM):List Value:= [iV s.1,uV s.2]
theorem NX:Enc 2 mP:=⟨fun _=>rfl,fun x v hv=>by simp[mP] at hv;rcases hv with rfl |rfl<;>rfl⟩
def eO(o:Ky):List Value:= [iV o.1,iV o.2.1,uV o.2.2]
theorem B6:Enc 3 eO:=⟨fun _=>rfl,fun x v hv=>by simp[eO] at hv;rcases hv with rfl |rfl |rfl<;>rfl⟩
def AJ(q:Int):List AM→Nat→List (Nat×Int)
 | [],_=> []
 |s::A,k=>if s.1=q then (k,s.2)::AJ q A (k+1) else AJ q A (k+1)
theorem NY(q:Int)(A B:List AM): ∀k,AJ q (A++B) k=AJ q A k++AJ q B (k+A.length):=by
 induction A with
 |nil=>intro k;simp[AJ]
 |cons s A ih=>
  intro k
  simp only[List.cons_append,AJ,List.length_cons]
  rw[ih,show k+1+A.length=k+(A.length+1) from by omega]
  split
  · simp
  · rfl
def Ef(q:Int)(A:List AM)(i:Nat):Nat:=(AJ q (A.take i) 0).length
theorem KC{q:Int}{A:List AM}{i:Nat}{s:AM}(h:A[i]? =some s):AJ q (A.take (i+1)) 0=AJ q (A.take i) 0++(if s.1=q then [(i,s.2)] else []):=by
 have hi:=(List.getElem?_eq_some_iff.1 h).1
 rw[List.take_add_one,h,NY,Nat.zero_add,List.length_take,Nat.min_eq_left om]
 simp only[Option.toList_some,AJ]
theorem Xm{q:Int}{A:List AM}{i:Nat}{s:AM}(h:A[i]? =some s)(hs:s.1=q):Ef q A (i+1)=Ef q A i+1:=by
 unfold Ef
 rw[KC h,if_pos hs,List.length_append]
 rfl
theorem Xn{q:Int}{A:List AM}{i:Nat}{s:AM}(h:A[i]? =some s)(hs:s.1≠q):Ef q A (i+1)=Ef q A i:=by
 unfold Ef
 rw[KC h,if_neg hs,List.append_nil]
theorem KD{q:Int}{A:List AM}{i:Nat}{s:AM}(h:A[i]? =some s)(hs:s.1=q):(AJ q A 0)[Ef q A i]? =some (i,s.2):=by
 have h1:AJ q A 0=AJ q (A.take (i+1)) 0++AJ q (A.drop (i+1)) (A.take (i+1)).length:=by
  have:=NY q (A.take (i+1)) (A.drop (i+1)) 0
  rw[List.take_append_drop,Nat.zero_add] at this
  exact this
 rw[h1,KC h,if_pos hs]
 unfold Ef
 simp
theorem getD_some{α:Type}{l:List α}{i:Nat}{x d:α}(hx:l[i]? =some x):l.getD i d=x:=by simp[List.getD,hx]
theorem Eg{q:Int}: ∀ {A:List AM} {k i j:Nat} {z:Int},(AJ q A k)[i]? =some (j,z)→k≤j∧A[j-k]? =some (q,z)
 | [],k,i,j,z,h=>by simp[AJ] at h
 |s::A,k,i,j,z,h=>by
  simp only[AJ] at h
  split at h
  · rename_i hs
    cases i with
    |zero=>
     simp only[List.getElem?_cons_zero,Option.some.injEq,Prod.mk.injEq] at h
     obtain⟨rfl,rfl⟩:=h
     subst hs
     exact⟨Nat.le_refl _,by simp⟩
    |succ i=>
     obtain⟨h1,a⟩:=Eg (by simpa using h)
     refine⟨by omega,?_⟩
     rw[show j-k=(j-(k+1))+1 from by omega,List.getElem?_cons_succ]
     exact a
  · obtain⟨h1,a⟩:=Eg h
    refine⟨by omega,?_⟩
    rw[show j-k=(j-(k+1))+1 from by omega,List.getElem?_cons_succ]
    exact a
theorem To{q:Int}{A:List AM}{i:Nat}(h:i<(AJ q A 0).length):A[((AJ q A 0).getD i (0,0)).1]? =some (q,((AJ q A 0).getD i (0,0)).2):=by
 have a:(AJ q A 0)[i]? =some ((AJ q A 0)[i]):=List.getElem?_eq_getElem h
 rw[getD_some a]
 have:=Eg (show (AJ q A 0)[i]? =some (((AJ q A 0)[i]).1,((AJ q A 0)[i]).2) from a)
 simpa using this.2
theorem mQ(q:Int)(A:List AM)(i:Nat):Ef q A i≤(AJ q A 0).length:=by
 have h1:AJ q A 0=AJ q (A.take i) 0++AJ q (A.drop i) (A.take i).length:=by
  have:=NY q (A.take i) (A.drop i) 0
  rw[List.take_append_drop,Nat.zero_add] at this
  exact this
 unfold Ef
 rw[h1,List.length_append]
 omega
theorem Tp(q:Int){A:List AM}{i:Nat}(h:A.length≤i):Ef q A i=(AJ q A 0).length:=by unfold Ef;rw[List.take_of_length_le h]
def Bn(A:List AM):Int×Int×Int:=if 0<(AJ 0 A 0).length then ((((AJ 0 A 0).getD 0 (0,0)).1:Int),((AJ 0 A 0).getD 0 (0,0)).2,0) else (0,0,4)
def Ap(A:List AM):List AM:=if 0<(AJ 0 A 0).length then A.set ((AJ 0 A 0).getD 0 (0,0)).1 (1,((AJ 0 A 0).getD 0 (0,0)).2) else A
theorem Dj{A:List AM}(h:(AJ 0 A 0).length=0):Bn A=(0,0,4)∧Ap A=A:=by
 unfold Bn Ap
 rw[if_neg om,if_neg om]
 exact⟨rfl,rfl⟩
theorem CQ{A:List AM}(h:0<(AJ 0 A 0).length):Bn A=((((AJ 0 A 0).getD 0 (0,0)).1:Int),((AJ 0 A 0).getD 0 (0,0)).2,0)∧Ap A=A.set ((AJ 0 A 0).getD 0 (0,0)).1 (1,((AJ 0 A 0).getD 0 (0,0)).2):=by
 unfold Bn Ap
 rw[if_pos h,if_pos h]
 exact⟨rfl,rfl⟩
theorem DU(q:Int): ∀(A:List AM) (k:Nat),(AJ q A k).length≤A.length
 | [],k=>Nat.le_refl _
 |s::A,k=>by
  have:=DU q A (k+1)
  simp only[AJ]
  split
  · simp only[List.length_cons];omega
  · simp only[List.length_cons];omega
theorem Ie{α:Type}{l:List α}{i:Nat}{d:α}(h:i<l.length):l.take i++ [l.getD i d]=l.take (i+1):=by
 rw[List.take_add_one,List.getElem?_eq_getElem h,getD_some (List.getElem?_eq_getElem h)]
 rfl
def Ak(A:List AM)(q:Nat)(z:Int):List AM:=if z<4294967295 then A.set q (0,z+1) else A.set q (2,z)
def He(r:Nat×Int):List Value:= [iV (r.1:Int),uV r.2]
theorem Bf:Enc 2 He:=⟨fun _=>rfl,fun x v hv=>by simp[He] at hv;rcases hv with rfl |rfl<;>rfl⟩
theorem dE{α:Type}(x y z:α): ∀(i n:Nat),i<n→(List.replicate i x++List.replicate (n-i) y)[i]? =some y∧(List.replicate i x++List.replicate (n-i) y).set i z=List.replicate i x++z::List.replicate (n-(i+1)) y:=by
 intro i n h
 rw[show n-i=(n-(i+1))+1 from by omega,List.replicate_succ]
 constructor
 · rw[List.getElem?_append_right (by rw[List.length_replicate];omega),List.length_replicate,Nat.sub_self]
   rfl
 · rw[List.set_append_right _ _ (by rw[List.length_replicate];omega),List.length_replicate,Nat.sub_self]
   rfl
theorem mR{α:Type}(x:α)(i:Nat)(T:List α):List.replicate i x++x::T=List.replicate (i+1) x++T:=by
 rw[List.replicate_succ',List.append_assoc]
 rfl
section
def Eh(n:Nat)(B:List AM):List Value:= .int .i64 (n:Int)::fl mP B
def KE(A:List AM):Prop:= ∀s∈A,0≤s.1∧s.1≤2∧1≤s.2∧s.2≤4294967295
def Tb(b n:Nat)(A:List AM):AB:=fun h=> ∃T:List AM,(A.length=n∧1≤n∧n≤256∧KE A∧(A++T).length=256)∧Cl b (Eh n (A++T)) 278 h
theorem EB(n:Nat)(B:List AM):(Eh n B).length=1+B.length*2:=by rw[Eh,List.length_cons,Dg NX];omega
theorem mS{n i:Nat}{B:List AM}{s:AM}(h:B[i]? =some s):(Eh n B)[1+i*2]? =some (.int .i64 s.1):=by
 have:=Cq NX (j:=0) (v:= .int .i64 s.1) h rfl
 rw[Eh,show 1+i*2=(i*2+0)+1 from by omega,List.getElem?_cons_succ]
 exact this
theorem dF{n i:Nat}{B:List AM}{s:AM}(h:B[i]? =some s):(Eh n B)[1+i*2+1]? =some (.int .u32 s.2):=by
 have:=Cq NX (j:=1) (v:= .int .u32 s.2) h rfl
 rw[Eh,show 1+i*2+1=(i*2+1)+1 from by omega,List.getElem?_cons_succ]
 exact this
theorem R1(a z:Int): ∀(B:List AM) (i:Nat) (s:AM),B[i]? =some s→
  (fl mP B).set (i*2) (.int .i64 a)=fl mP (B.set i (a,s.2))∧(fl mP B).set (i*2+1) (.int .u32 z)=fl mP (B.set i (s.1,z))
 | [],i,s,h=>by simp at h
 |b::B,0,s,h=>by
  simp only[List.getElem?_cons_zero,Option.some.injEq] at h
  subst h
  exact⟨rfl,rfl⟩
 |b::B,i+1,s,h=>by
  obtain⟨h1,h2⟩:=R1 a z B i s (by simpa using h)
  rw[List.set_cons_succ,List.set_cons_succ,fl,fl,fl,←h1,←h2,show (i+1)*2=i*2+2 from by omega]
  exact⟨rfl,rfl⟩
theorem Pe{n i:Nat}{B:List AM}{s:AM}(h:B[i]? =some s)(a:Int):CL (Eh n B) [(1+i*2,iV a)]=Eh n (B.set i (a,s.2)):=by
 simp only[CL,Eh,show 1+i*2=i*2+1 from by omega,List.set_cons_succ]
 rw[(R1 a 0 B i s h).1]
theorem Pf{n i:Nat}{B:List AM}{s:AM}(h:B[i]? =some s)(z:Int):CL (Eh n B) [(1+i*2+1,uV z)]=Eh n (B.set i (s.1,z)):=by
 simp only[CL,Eh,show 1+i*2+1=(i*2+1)+1 from by omega,List.set_cons_succ]
 rw[(R1 0 z B i s h).2]
theorem Xo{n i:Nat}{B:List AM}{s:AM}(h:B[i]? =some s)(a z:Int):CL (Eh n B) [(1+i*2,iV a),(1+i*2+1,uV z)]=Eh n (B.set i (a,z)):=by
 have h1:=Pe (n:=n) h a
 have b:=Pf (n:=n) (B:=B.set i (a,s.2)) (i:=i) (s:=(a,s.2)) (by rw[List.getElem?_set_self (List.getElem?_eq_some_iff.1 h).1]) z
 rw[List.set_set] at b
 rw[←b,←h1]
 rfl
theorem Tq{A T:List AM}{i:Nat}(x:AM)(h:i<A.length):(A++T).set i x=A.set i x++T:=List.set_append_left _ _ h
theorem Dq{A T:List AM}{i:Nat}{s:AM}(h:A[i]? =some s):(A++T)[i]? =some s:=by rw[List.getElem?_append_left (List.getElem?_eq_some_iff.1 h).1];exact h
theorem Hf{A:List AM}{i:Nat}{x:AM}(h:KE A)(hx:0≤x.1∧x.1≤2∧1≤x.2∧x.2≤4294967295):KE (A.set i x):=fun s hs=>by
 rcases List.mem_or_eq_of_mem_set hs with a|a
 · exact h s a
 · rw[a];exact hx
section
variable {g w : World} {L : List AB} {b n : Nat} {A : List AM}
theorem DV(h:sat g w (Tb b n A::L)): ∃T:List AM,(A.length=n∧1≤n∧n≤256∧KE A∧(A++T).length=256)∧sat g w (Cl b (Eh n (A++T)) 278::L):=
 Af (X:=List AM) (p:=fun T=>A.length=n∧1≤n∧n≤256∧KE A∧(A++T).length=256) (B:=fun T=>Cl b (Eh n (A++T)) 278) h fun k hk=>hk
theorem Bx{T:List AM}(hp:A.length=n∧1≤n∧n≤256∧KE A∧(A++T).length=256)(h:sat g w (Cl b (Eh n (A++T)) 278::L)):sat g w (Tb b n A::L):=AI h fun _ hh=>⟨T,hp,hh⟩
end
theorem Xp:KeyOk prog 48:=by
 have hu:prog.underlying 48=some _:=underlying48
 refine⟨fun a b w=> ?_,fun a e w=> ?_,⟨_,underlying48⟩⟩
 · obtain⟨f,i,j⟩:=a
   obtain⟨k,l,m⟩:=b
   show (Op.equalIn 10000 48 (.agg #[iV f,iV i,uV j]) (.agg #[iV k,iV l,uV m])).run prog w= .ok (decide ((f,i,j)=(k,l,m))) w
   by_cases c:f=k
   · by_cases o:i=l
     · by_cases p:j=m
       · subst c;subst o;subst p;simp[go_sem]
       · subst c;subst o;simp[go_sem,p]
     · subst c;simp[go_sem,o]
   · simp[go_sem,c]
 · have h: ∀d:Nat,(Instr.checkKey e (d+1+1) 48 (kv a)).run prog w= .ok () w:=fun d=>by
    simp[kv,Instr.checkKey,go_sem]
   exact h 9998
theorem Jh{n i k:Nat}{B:List AM}{s:AM}(h:B[i]? =some s)(hk:k=1+i*2):(Eh n B)[k]? =some (.int .i64 s.1):=hk▸mS h
theorem Hg{n i k:Nat}{B:List AM}{s:AM}(h:B[i]? =some s)(hk:k=1+i*2+1):(Eh n B)[k]? =some (.int .u32 s.2):=hk▸dF h
theorem MP{n i k:Nat}{A T:List AM}{s:AM}(h:A[i]? =some s)(a:Int)(hk:k=1+i*2):CL (Eh n (A++T)) [(k,iV a)]=Eh n (A.set i (a,s.2)++T):=by
 subst hk
 rw[Pe (Dq h),Tq _ (List.getElem?_eq_some_iff.1 h).1]
theorem VS{n i k b:Nat}{A T:List AM}{s:AM}(h:A[i]? =some s)(a z:Int)(hk:k=1+i*2)(c:b=1+i*2+1):CL (Eh n (A++T)) [(k,iV a),(b,uV z)]=Eh n (A.set i (a,z)++T):=by
 subst hk
 subst c
 rw[Xo (Dq h),Tq _ (List.getElem?_eq_some_iff.1 h).1]
theorem dG(n:Nat)(B:List AM): ∀v∈Eh n B,v.oneCell'=true:=fun v hv=>by
 rcases List.mem_cons.1 hv with rfl |hv
 · rfl
 · exact Aw NX B v hv
theorem DJ{g w:World}{L:List AB}{j b n:Nat}{A:List AM}(h:sat g w L)(hj:L[j]? =some (Tb b n A)):A.length=n∧1≤n∧n≤256∧KE A:=D9 h hj fun _ ha _=>by
 obtain⟨T,hp,_⟩:=ha
 exact⟨hp.1,hp.2.1,hp.2.2.1,hp.2.2.2.1⟩
theorem dH{n i k:Nat}{z:Int}(h:i<256)(hk:k=1+i*2+1):CL (Eh n (List.replicate i (0,z)++List.replicate (256-i) (0,0))) [(k,uV z)]=Eh n (List.replicate (i+1) (0,z)++List.replicate (256-(i+1)) (0,0)):=by
 subst hk
 obtain⟨h1,h2⟩:=dE ((0,z):AM) ((0,0):AM) (0,z) i 256 h
 rw[Pf h1 z,h2,mR]
theorem mT{n:Nat}{z:Int}(h1:1≤n)(h2:n≤256)(h3:1≤z)(h4:z≤4294967295):(List.replicate n ((0,z):AM)).length=n∧1≤n∧n≤256∧KE (List.replicate n (0,z))∧(List.replicate n ((0,z):AM)++List.replicate (256-n) (0,0)).length=256:=by
 refine⟨List.length_replicate,h1,h2,fun s hs=> ?_,by rw[List.length_append,List.length_replicate,List.length_replicate];omega⟩
 rw[List.eq_of_mem_replicate hs]
 exact⟨by show (0:Int)≤0;decide,by show (0:Int)≤2;decide,h3,h4⟩
theorem If{A:List AM}{q:Nat}{z:Int}{x:AM}(h:KE A)(hx:A[q]? =some x)(hz:x.2=z):KE (Ak A q z):=by
 have:=h x (List.mem_of_getElem? hx)
 unfold Ak
 split
 · exact Hf h ⟨by show (0:Int)≤0;decide,by show (0:Int)≤2;decide,by show 1≤z+1;omega,by show z+1≤4294967295;omega⟩
 · exact Hf h ⟨by show (0:Int)≤2;decide,by show (2:Int)≤2;decide,by show 1≤z;omega,by show z≤4294967295;omega⟩
end
theorem FB(gn:Int)(a:1≤gn)(hg:gn≤4294967295):HQ 68 [uV gn] [] (iV 0) []:=by
 refine AC func68 ntmps68 fun g w0 R h0=>go [.v 1 1 (oF (gn<1)),.v 1 4 (oF (gn>4294967295))] ?_
 exact AD _ [] h0
theorem MQ(gn:Int)(a:gn≤0):HQ 68 [uV gn] [] (iV 2) []:=by
 refine AC func68 ntmps68 fun g w0 R h0=>go [.v 1 1 (oT (gn<1))] ?_
 exact AD _ [] h0
theorem VT(b:Nat)(gn:Int)(c:0≤gn)(hg:gn≤4294967295):HQ 497 [pV b] [Cl b [uV gn] 24] (uV (-gn+4294967295)) [Cl b [uV gn] 24]:=by
 refine AC func497 ntmps497 fun g w0 R a=>go [rd 1 0 0 0 1 a,.v 1 1 (oU (4294967295-gn) (-gn+4294967295))] ?_
 exact AD _ [] a
theorem tO(b r:Nat)(gn:Int)(e:1≤gn)(hg:gn≤4294967295):HQ 496 [.func (Fn.func 497) #[] #[pV b],.slice (some ⟨r,0,none⟩) 1 1] [Cl b [uV gn] 24,Cl r [uV gn] 24] (.tuple #[uV (-gn+4294967295),iV 0]) [Cl b [uV gn] 24,Cl r [uV gn] 24]:=by
 refine AC func496 ntmps496 fun g w0 R a=>go [.v 2 1 (oJ .i64 (1:Int) 1)]<|DS 1<|go [.s 4 0]<|AS (pV r) (D5 (Ot 10) (Ot 12) r 0 0 1 1 underlying578 1 0 0)<|go [rd 4 1 1 0 1 a]<|AP call68 (FB gn om om) a fun _ c=>g0<|Bm<|g0<|up<|g0<|AF call497 (VT b gn om om) c fun _ d=> ?_
 refine g0 ?_
 exact AD _ [] d
theorem Pg(gn:Int)(j:1≤gn)(hg:gn≤4294967295):HQ 483 [uV gn] [] (.tuple #[uV (-gn+4294967295),iV 0]) []:=by
 refine AC func483 ntmps483 fun g w0 R h0=>g0<|nP 24 [uV gn] h0 (fun d _ c=> ?_)
 refine go [rd 1 1 0 0 1 c]<|nG (fun q_=> .slice (some ⟨q_,0,none⟩) 1 1) 24 [uV gn] c (fun e _ f=>⟨kd [],?_⟩)
 refine DF call496 (tO d e gn om om) f.a.t3 fun _ i=>g0 ?_
 exact AD _ [] i.b.t1
theorem Xq(gn:Int)(b:1≤gn)(hg:gn<4294967295):HQ 456 [uV gn,.int .u64 1] [] (.tuple #[uV (gn+1),bT,iV 0]) []:=by
 refine AC func456 ntmps456 fun g w0 R h0=>g0<|AP call483 (Pg gn om om) h0 fun _ a=>go [.v 2 5 (tE (-gn+4294967295)),.v 2 6 (oF (1> -gn+4294967295)),.v 4 2 (sE 1),.v 4 3 (sE (gn+1))] ?_
 exact AD _ [] a
theorem Xr(gn:Int)(hg:gn=4294967295):HQ 456 [uV gn,.int .u64 1] [] (.tuple #[uV 0,bF,iV 0]) []:=by
 refine AC func456 ntmps456 fun g w0 R h0=>g0<|AP call483 (Pg gn om om) h0 fun _ a=>go [.v 2 5 (tE (-gn+4294967295)),.v 2 6 (oT (1> -gn+4294967295))] ?_
 exact AD _ [] a
theorem dI(gn:Int)(b:1≤gn)(hg:gn<4294967295):HQ 426 [uV gn] [] (.tuple #[uV (gn+1),bT,iV 0]) []:=by
 refine AC func426 ntmps426 fun g w0 R h0=>g0<|AP call456 (Xq gn om om) h0 fun _ a=>g0 ?_
 exact AD _ [] a
theorem dJ(gn:Int)(hg:gn=4294967295):HQ 426 [uV gn] [] (.tuple #[uV 0,bF,iV 0]) []:=by
 refine AC func426 ntmps426 fun g w0 R h0=>g0<|AP call456 (Xr gn om) h0 fun _ a=>g0 ?_
 exact AD _ [] a
theorem KF(x y z:Int)(e:0≤z)(f:z≤4294967295):HQ 350 [.agg #[iV x,iV y,uV z]] [] (.agg #[iV x,iV y,iV z]) []:=by
 refine AC func350 ntmps350 fun g w0 R h0=>g0<|nP 48 [iV x,iV y,uV z] h0 (fun _ _ d=> ?_)
 refine nP 470 [iV 0,iV 0,iV 0] d (fun _ _ a=> ?_)
 refine go [rd 1 1 1 0 1 a,rd 1 3 1 1 1 a,rd 1 5 1 2 1 a,.v 1 6 (CD z)]<|sA [iV x,iV y,iV z] a fun _ c=>g0 ?_
 exact AD _ [rd 0 0 0 0 3 c] c.b.t1
theorem MR(x y z:Int)(e:0≤z)(f:z≤4294967295):HQ 357 [.agg #[iV x,iV y,uV z]] [] (.agg #[iV x,iV y,iV z]) []:=by
 refine AC func357 ntmps357 fun g w0 R h0=>g0<|nP 39 [iV x,iV y,uV z] h0 (fun _ _ d=> ?_)
 refine nP 470 [iV 0,iV 0,iV 0] d (fun _ _ a=> ?_)
 refine go [rd 1 1 1 0 1 a,rd 1 3 1 1 1 a,rd 1 5 1 2 1 a,.v 1 6 (CD z)]<|sA [iV x,iV y,iV z] a fun _ c=>g0 ?_
 exact AD _ [rd 0 0 0 0 3 c] c.b.t1
theorem VU(x y z:Int)(f:0≤z)(j:z≤4294967295)(ho:1≤x∧x≤3∧0≤y∧y≤63∧1≤z):HQ 351 [.agg #[iV x,iV y,iV z],iV 64] [] (iV 0) []:=by
 refine AC func351 ntmps351 fun g w0 R h0=>g0<|nP 470 [iV x,iV y,iV z] h0 (fun c _ d=> ?_)
 refine go [.s 1 0]<|AS (pV c) (AA (x:=Ot 2) (i:=(Operand.const (iV 0))) (b:=c) (off:=0) (z:=0) kr underlying470 1 kr 0 kr kr om om 0 om _)<|go [rd 1 1 0 0 1 d,.v 1 2 (oF (x<1)),.s 1 4]<|AS (pV c) (AA (x:=Ot 2) (i:=(Operand.const (iV 0))) (b:=c) (off:=0) (z:=0) kr underlying470 1 kr 0 kr kr om om 0 om _)<|go [rd 1 5 0 0 1 d,.v 1 6 (oF (x>3)),.s 1 9]<|AS (.pointer (some ⟨c,1,none⟩)) (AA (x:=Ot 2) (i:=(Operand.const (iV 1))) (b:=c) (off:=0) (z:=1) kr underlying470 1 kr 1 kr kr om om 1 om _)<|go [rd 1 10 0 1 1 d,.v 1 11 (oF (y<0)),.s 1 14]<|AS (.pointer (some ⟨c,1,none⟩)) (AA (x:=Ot 2) (i:=(Operand.const (iV 1))) (b:=c) (off:=0) (z:=1) kr underlying470 1 kr 1 kr kr om om 1 om _)<|go [rd 1 15 0 1 1 d,.v 1 17 (oF (y≥64)),.s 3 0]<|AS (.pointer (some ⟨c,2,none⟩)) (AA (x:=Ot 2) (i:=(Operand.const (iV 2))) (b:=c) (off:=0) (z:=2) kr underlying470 1 kr 2 kr kr om om 2 om _)<|go [rd 3 1 0 2 1 d,.v 3 2 (sE z)]<|AP call68 (FB z om om) d fun _ e=>g0 ?_
 exact AD _ [] e.a.t1
theorem FC(x y z:Int)(m:0≤z)(o:z≤4294967295)(ho: ¬(1≤x∧x≤3∧0≤y∧y≤63∧1≤z)):HQ 351 [.agg #[iV x,iV y,iV z],iV 64] [] (iV 2) []:=by
 refine AC func351 ntmps351 fun g w0 R h0=>g0<|nP 470 [iV x,iV y,iV z] h0 (fun c _ d=> ?_)
 refine go [.s 1 0]<|AS (pV c) (AA (x:=Ot 2) (i:=(Operand.const (iV 0))) (b:=c) (off:=0) (z:=0) kr underlying470 1 kr 0 kr kr om om 0 om _)<|go [rd 1 1 0 0 1 d,.s 1 2] ?_
 by_cases e:x<1
 ·
  refine go [.v 1 2 (oT _ e)] ?_
  exact AD _ [] d.a.t1
 refine go [.v 1 2 (oF _ e),.s 1 4]<|AS (pV c) (AA (x:=Ot 2) (i:=(Operand.const (iV 0))) (b:=c) (off:=0) (z:=0) kr underlying470 1 kr 0 kr kr om om 0 om _)<|go [rd 1 5 0 0 1 d,.s 1 6] ?_
 by_cases f:x>3
 ·
  refine go [.v 1 6 (oT _ f)] ?_
  exact AD _ [] d.a.t1
 refine go [.v 1 6 (oF _ f),.s 1 9]<|AS (.pointer (some ⟨c,1,none⟩)) (AA (x:=Ot 2) (i:=(Operand.const (iV 1))) (b:=c) (off:=0) (z:=1) kr underlying470 1 kr 1 kr kr om om 1 om _)<|go [rd 1 10 0 1 1 d,.s 1 11] ?_
 by_cases j:y<0
 ·
  refine go [.v 1 11 (oT _ j)] ?_
  exact AD _ [] d.a.t1
 refine go [.v 1 11 (oF _ j),.s 1 14]<|AS (.pointer (some ⟨c,1,none⟩)) (AA (x:=Ot 2) (i:=(Operand.const (iV 1))) (b:=c) (off:=0) (z:=1) kr underlying470 1 kr 1 kr kr om om 1 om _)<|go [rd 1 15 0 1 1 d,.s 1 17] ?_
 by_cases k:y≥64
 ·
  refine go [.v 1 17 (oT _ k)] ?_
  exact AD _ [] d.a.t1
 refine go [.v 1 17 (oF _ k),.s 3 0]<|AS (.pointer (some ⟨c,2,none⟩)) (AA (x:=Ot 2) (i:=(Operand.const (iV 2))) (b:=c) (off:=0) (z:=2) kr underlying470 1 kr 2 kr kr om om 2 om _)<|go [rd 3 1 0 2 1 d,.v 3 2 (sE z)]<|AP call68 (MQ z om) d fun _ l=>g0 ?_
 exact AD _ [] l.a.t1
theorem Bg(x y z:Int)(e:0≤z)(f:z≤4294967295)(ho:1≤x∧x≤3∧0≤y∧y≤63∧1≤z):HQ 273 [.agg #[iV x,iV y,uV z]] [] (iV 0) []:=by
 refine AC func273 ntmps273 fun g w0 R h0=>g0<|nP 48 [iV x,iV y,uV z] h0 (fun _ _ b=> ?_)
 refine go [rd 1 0 0 0 3 b]<|AP call350 (KF x y z om om) b fun _ c=>AP call351 (VU x y z om om om) c fun _ d=>g0 ?_
 exact AD _ [] d.a.t1
theorem Ao(x y z:Int)(k:0≤z)(l:z≤4294967295)(ho: ¬(1≤x∧x≤3∧0≤y∧y≤63∧1≤z)):HQ 273 [.agg #[iV x,iV y,uV z]] [] (iV 2) []:=by
 refine AC func273 ntmps273 fun g w0 R h0=>g0<|nP 48 [iV x,iV y,uV z] h0 (fun _ _ c=> ?_)
 refine go [rd 1 0 0 0 3 c]<|AP call350 (KF x y z om om) c fun _ b=> ?_
 by_cases m:1≤x
 ·
  by_cases o:x≤3
  ·
   by_cases p:0≤y
   ·
    by_cases q:y≤63
    ·
     refine AP call351 (FC x y z om om om) b fun _ d=>g0 ?_
     exact AD _ [] d.a.t1
    refine AP call351 (FC x y z om om om) b fun _ e=>g0 ?_
    exact AD _ [] e.a.t1
   refine AP call351 (FC x y z om om om) b fun _ f=>g0 ?_
   exact AD _ [] f.a.t1
  refine AP call351 (FC x y z om om om) b fun _ i=>g0 ?_
  exact AD _ [] i.a.t1
 refine AP call351 (FC x y z om om om) b fun _ j=>g0 ?_
 exact AD _ [] j.a.t1
theorem R2(x y z:Int)(f:0≤z)(j:z≤4294967295)(ho:1≤x∧x≤3∧0≤y∧y≤255∧1≤z):HQ 351 [.agg #[iV x,iV y,iV z],iV 256] [] (iV 0) []:=by
 refine AC func351 ntmps351 fun g w0 R h0=>g0<|nP 470 [iV x,iV y,iV z] h0 (fun c _ d=> ?_)
 refine go [.s 1 0]<|AS (pV c) (AA (x:=Ot 2) (i:=(Operand.const (iV 0))) (b:=c) (off:=0) (z:=0) kr underlying470 1 kr 0 kr kr om om 0 om _)<|go [rd 1 1 0 0 1 d,.v 1 2 (oF (x<1)),.s 1 4]<|AS (pV c) (AA (x:=Ot 2) (i:=(Operand.const (iV 0))) (b:=c) (off:=0) (z:=0) kr underlying470 1 kr 0 kr kr om om 0 om _)<|go [rd 1 5 0 0 1 d,.v 1 6 (oF (x>3)),.s 1 9]<|AS (.pointer (some ⟨c,1,none⟩)) (AA (x:=Ot 2) (i:=(Operand.const (iV 1))) (b:=c) (off:=0) (z:=1) kr underlying470 1 kr 1 kr kr om om 1 om _)<|go [rd 1 10 0 1 1 d,.v 1 11 (oF (y<0)),.s 1 14]<|AS (.pointer (some ⟨c,1,none⟩)) (AA (x:=Ot 2) (i:=(Operand.const (iV 1))) (b:=c) (off:=0) (z:=1) kr underlying470 1 kr 1 kr kr om om 1 om _)<|go [rd 1 15 0 1 1 d,.v 1 17 (oF (y≥256)),.s 3 0]<|AS (.pointer (some ⟨c,2,none⟩)) (AA (x:=Ot 2) (i:=(Operand.const (iV 2))) (b:=c) (off:=0) (z:=2) kr underlying470 1 kr 2 kr kr om om 2 om _)<|go [rd 3 1 0 2 1 d,.v 3 2 (sE z)]<|AP call68 (FB z om om) d fun _ e=>g0 ?_
 exact AD _ [] e.a.t1
theorem EM(x y z:Int)(m:0≤z)(o:z≤4294967295)(ho: ¬(1≤x∧x≤3∧0≤y∧y≤255∧1≤z)):HQ 351 [.agg #[iV x,iV y,iV z],iV 256] [] (iV 2) []:=by
 refine AC func351 ntmps351 fun g w0 R h0=>g0<|nP 470 [iV x,iV y,iV z] h0 (fun c _ d=> ?_)
 refine go [.s 1 0]<|AS (pV c) (AA (x:=Ot 2) (i:=(Operand.const (iV 0))) (b:=c) (off:=0) (z:=0) kr underlying470 1 kr 0 kr kr om om 0 om _)<|go [rd 1 1 0 0 1 d,.s 1 2] ?_
 by_cases e:x<1
 ·
  refine go [.v 1 2 (oT _ e)] ?_
  exact AD _ [] d.a.t1
 refine go [.v 1 2 (oF _ e),.s 1 4]<|AS (pV c) (AA (x:=Ot 2) (i:=(Operand.const (iV 0))) (b:=c) (off:=0) (z:=0) kr underlying470 1 kr 0 kr kr om om 0 om _)<|go [rd 1 5 0 0 1 d,.s 1 6] ?_
 by_cases f:x>3
 ·
  refine go [.v 1 6 (oT _ f)] ?_
  exact AD _ [] d.a.t1
 refine go [.v 1 6 (oF _ f),.s 1 9]<|AS (.pointer (some ⟨c,1,none⟩)) (AA (x:=Ot 2) (i:=(Operand.const (iV 1))) (b:=c) (off:=0) (z:=1) kr underlying470 1 kr 1 kr kr om om 1 om _)<|go [rd 1 10 0 1 1 d,.s 1 11] ?_
 by_cases j:y<0
 ·
  refine go [.v 1 11 (oT _ j)] ?_
  exact AD _ [] d.a.t1
 refine go [.v 1 11 (oF _ j),.s 1 14]<|AS (.pointer (some ⟨c,1,none⟩)) (AA (x:=Ot 2) (i:=(Operand.const (iV 1))) (b:=c) (off:=0) (z:=1) kr underlying470 1 kr 1 kr kr om om 1 om _)<|go [rd 1 15 0 1 1 d,.s 1 17] ?_
 by_cases k:y≥256
 ·
  refine go [.v 1 17 (oT _ k)] ?_
  exact AD _ [] d.a.t1
 refine go [.v 1 17 (oF _ k),.s 3 0]<|AS (.pointer (some ⟨c,2,none⟩)) (AA (x:=Ot 2) (i:=(Operand.const (iV 2))) (b:=c) (off:=0) (z:=2) kr underlying470 1 kr 2 kr kr om om 2 om _)<|go [rd 3 1 0 2 1 d,.v 3 2 (sE z)]<|AP call68 (MQ z om) d fun _ l=>g0 ?_
 exact AD _ [] l.a.t1
theorem FD(x y z:Int)(e:0≤z)(f:z≤4294967295)(ho:1≤x∧x≤3∧0≤y∧y≤255∧1≤z):HQ 281 [.agg #[iV x,iV y,uV z]] [] (iV 0) []:=by
 refine AC func281 ntmps281 fun g w0 R h0=>g0<|nP 39 [iV x,iV y,uV z] h0 (fun _ _ b=> ?_)
 refine go [rd 1 0 0 0 3 b]<|AP call357 (MR x y z om om) b fun _ c=>AP call351 (R2 x y z om om om) c fun _ d=>g0 ?_
 exact AD _ [] d.a.t1
theorem F9(x y z:Int)(k:0≤z)(l:z≤4294967295)(ho: ¬(1≤x∧x≤3∧0≤y∧y≤255∧1≤z)):HQ 281 [.agg #[iV x,iV y,uV z]] [] (iV 2) []:=by
 refine AC func281 ntmps281 fun g w0 R h0=>g0<|nP 39 [iV x,iV y,uV z] h0 (fun _ _ c=> ?_)
 refine go [rd 1 0 0 0 3 c]<|AP call357 (MR x y z om om) c fun _ b=> ?_
 by_cases m:1≤x
 ·
  by_cases o:x≤3
  ·
   by_cases p:0≤y
   ·
    by_cases q:y≤255
    ·
     refine AP call351 (EM x y z om om om) b fun _ d=>g0 ?_
     exact AD _ [] d.a.t1
    refine AP call351 (EM x y z om om om) b fun _ e=>g0 ?_
    exact AD _ [] e.a.t1
   refine AP call351 (EM x y z om om om) b fun _ f=>g0 ?_
   exact AD _ [] f.a.t1
  refine AP call351 (EM x y z om om om) b fun _ i=>g0 ?_
  exact AD _ [] i.a.t1
 refine AP call351 (EM x y z om om om) b fun _ j=>g0 ?_
 exact AD _ [] j.a.t1
theorem NZ{n:Nat}{l:Fr}{o:Oper}{x y:Operand}(a b c c1:Int)(ho:o.op= .binOp .neq 275 x y 275)(hx:fe n l x= .agg #[iV a,uV b])(hy:fe n l y= .agg #[iV c,uV c1])(h:a=c∧b=c1)(w:World):(execOp (fe n l) o).run prog w= .ok (.value (bF)) w:=by
 obtain⟨rfl,rfl⟩:=h
 simp[execOp,ho,hx,hy,go_sem]
theorem Hh{n:Nat}{l:Fr}{o:Oper}{x y:Operand}(a b c c1:Int)(ho:o.op= .binOp .neq 275 x y 275)(hx:fe n l x= .agg #[iV a,uV b])(hy:fe n l y= .agg #[iV c,uV c1])(h: ¬(a=c∧b=c1))(w:World):(execOp (fe n l) o).run prog w= .ok (.value (bT)) w:=by
 by_cases d:a=c
 · skip
   by_cases e:b=c1
   · exact absurd ⟨d,e⟩ h
   · simp[execOp,ho,hx,hy,go_sem,d,e]
 · simp[execOp,ho,hx,hy,go_sem,d]
theorem Ig(b n:Nat)(A:List AM):HQ 183 [pV b] [Tb b n A] (bT) [Tb b n A]:=by
 refine AC func183 ntmps183 fun g w0 R h0=> ?_
 obtain⟨T10,a,c⟩:=DV h0
 have e:=a.2.1;have f:=a.2.2.1;have i:=a.2.2.2.2
 refine go [rd 1 6 0 0 1 c,.v 1 7 (oT ((n:Int)>0))] ?_
 have d:sat g _ (Tb b n A::_):=Bx a c
 exact AD _ [] d
theorem Ga(b n:Nat)(B:List AM)(hn:1≤n):HQ 183 [pV b] [Cl b (Eh n B) 278] (bT) [Cl b (Eh n B) 278]:=by
 refine AC func183 ntmps183 fun g w0 R a=>go [rd 1 6 0 0 1 a,.v 1 7 (oT ((n:Int)>0))] ?_
 exact AD _ [] a
theorem Ph(b n:Nat)(A:List AM)(i gn:Int)(hi:i<0∨(n:Int)≤i):HQ 325 [pV b,.agg #[iV i,uV gn]] [Tb b n A] (iV 3) [Tb b n A]:=by
 refine AC func325 ntmps325 fun g w0 R h0=> ?_
 obtain⟨T10,c,f⟩:=DV h0
 have p:=c.2.1;have q:=c.2.2.1;have t:=c.2.2.2.2
 refine g0<|nP 203 [iV i,uV gn] f (fun u _ j=> ?_)
 have k:=j.a.t3
 refine g0<|AF call183 (Ga b n _ om) k fun _ l=>g0<|dw (AE [0,1,2,3,4,5,6,7,8,9,10,11,12] Tr.nil) l fun x d=>go [rd 3 1 1 0 1 d,.s 3 2] ?_
 by_cases e:i<0
 ·
  refine go [.v 3 2 (oT _ e)] ?_
  have m:sat g _ (Tb b n A::_):=Bx c d
  exact AD _ [] m.B.t2
 refine go [.v 3 2 (oF _ e),rd 3 5 1 0 1 d,rd 3 9 0 0 1 d,.v 3 10 (oT (i≥(n:Int)))] ?_
 have o:sat g _ (Tb b n A::_):=Bx c d
 exact AD _ [] o.B.t2
theorem GA(b n:Nat)(A:List AM)(q:Nat)(x:AM)(hx:A[q]? =some x)(i gn:Int)(hc:i=(q:Int)∧x.1=1∧x.2=gn):HQ 325 [pV b,.agg #[iV i,uV gn]] [Tb b n A] (iV 0) [Tb b n A]:=by
 refine AC func325 ntmps325 fun g w0 R h0=> ?_
 obtain⟨T10,c,f⟩:=DV h0
 have o:=c.2.1;have p:=c.2.2.1;have t:=c.2.2.2.2
 have hx_:=c.2.2.2.1 x (List.mem_of_getElem? hx)
 have hq_:q<n:=by have h_:=(List.getElem?_eq_some_iff.1 hx).1;rw[c.1] at h_;exact h_
 refine g0<|nP 203 [iV i,uV gn] f (fun u _ j=> ?_)
 have k:=j.a.t3
 refine g0<|AF call183 (Ga b n _ om) k fun _ l=>g0<|dw (AE [0,1,2,3,4,5,6,7,8,9,10,11,12] Tr.nil) l fun _ e=>go [rd 3 1 1 0 1 e,.v 3 2 (oF (i<0)),rd 3 5 1 0 1 e,rd 3 9 0 0 1 e,.v 3 10 (oF (i≥(n:Int)))]<|dw (AE [0,1,2,3,4,5,6,7,8,9,10,11] Tr.nil) e fun C d=>go [rd 5 2 1 0 1 d,.s 5 5]<|lw (.pointer (some ⟨b,q*2+1,none⟩)) (fun _=>AA (x:=Ot 27) (i:=Ot 25) (b:=b) (off:=1) (z:=i) kr underlying276 2 kr q kr kr om om (q*2+1) om _)<|go [.r 5 6 b (q*2+1) [iV x.1,uV x.2] ⟨AL d 0 rfl (Jh (Dq hx) om),AL d 0 rfl (Hg (Dq hx) om),trivial⟩,rd 5 8 1 1 1 d,.s 5 10]<|lw (bF) (fun _=>NZ (x:=Ot 29) (y:=Ot 32) x.1 x.2 1 gn kr kr kr ⟨om,om⟩ _)<|g0 ?_
 have m:sat g _ (Tb b n A::_):=Bx c d
 exact AD _ [] m.B.t2
theorem JC(b n:Nat)(A:List AM)(q:Nat)(x:AM)(hx:A[q]? =some x)(i gn:Int)(hc:i=(q:Int)∧ ¬(x.1=1∧x.2=gn)):HQ 325 [pV b,.agg #[iV i,uV gn]] [Tb b n A] (iV 7) [Tb b n A]:=by
 refine AC func325 ntmps325 fun g w0 R h0=> ?_
 obtain⟨T10,c,f⟩:=DV h0
 have p:=c.2.1;have t:=c.2.2.1;have u:=c.2.2.2.2
 have hx_:=c.2.2.2.1 x (List.mem_of_getElem? hx)
 have hq_:q<n:=by have h_:=(List.getElem?_eq_some_iff.1 hx).1;rw[c.1] at h_;exact h_
 refine g0<|nP 203 [iV i,uV gn] f (fun C _ j=> ?_)
 have k:=j.a.t3
 refine g0<|AF call183 (Ga b n _ om) k fun _ l=>g0<|dw (AE [0,1,2,3,4,5,6,7,8,9,10,11,12] Tr.nil) l fun _ e=>go [rd 3 1 1 0 1 e,.v 3 2 (oF (i<0)),rd 3 5 1 0 1 e,rd 3 9 0 0 1 e,.v 3 10 (oF (i≥(n:Int)))]<|dw (AE [0,1,2,3,4,5,6,7,8,9,10,11] Tr.nil) e fun D d=>go [rd 5 2 1 0 1 d,.s 5 5]<|lw (.pointer (some ⟨b,q*2+1,none⟩)) (fun _=>AA (x:=Ot 27) (i:=Ot 25) (b:=b) (off:=1) (z:=i) kr underlying276 2 kr q kr kr om om (q*2+1) om _)<|go [.r 5 6 b (q*2+1) [iV x.1,uV x.2] ⟨AL d 0 rfl (Jh (Dq hx) om),AL d 0 rfl (Hg (Dq hx) om),trivial⟩,rd 5 8 1 1 1 d,.s 5 10] ?_
 by_cases E:x.1=1
 ·
  refine lw (bT) (fun _=>Hh (x:=Ot 29) (y:=Ot 32) x.1 x.2 1 gn kr kr kr om _)<|g0 ?_
  have m:sat g _ (Tb b n A::_):=Bx c d
  exact AD _ [] m.B.t2
 refine lw (bT) (fun _=>Hh (x:=Ot 29) (y:=Ot 32) x.1 x.2 1 gn kr kr kr om _)<|g0 ?_
 have o:sat g _ (Tb b n A::_):=Bx c d
 exact AD _ [] o.B.t2
theorem kR(b:Nat)(q:Int):HT prog 322 [pV b,iV q] [] (fun v K=> ∃c d,v= .func (Fn.func 392) #[] #[pV c,pV d]∧K= [Cl c [pV b] 171,Cl d [iV q] 3]):=by
 refine AC func322 ntmps322 fun g w0 R h0=>g0<|nP 171 [pV b] h0 (fun e _ f=> ?_)
 refine nP 3 [iV q] f (fun i _ j=> ?_)
 refine g0 ?_
 exact en _ [] ⟨_,_,rfl,⟨e,i,rfl,rfl⟩,j.a.t3⟩
theorem kS(c d b n:Nat)(q:Int)(A:List AM)(Y:1≤n)(Z:n≤256):IT prog 392 [pV c,pV d] ((AJ q A 0).length) (fun i=> [iV ((((AJ q A 0).getD i (0,0)).1:Nat):Int),uV ((AJ q A 0).getD i (0,0)).2]) [Cl c [pV b] 171,Cl d [iV q] 3,Tb b n A]:=by
 refine mH func392 ntmps392 fun g w0 R k_ J_ E_ hY h0=> ?_
 have z:sat g _ (J_ 0::_):=h0
 have E:=z.c.t5
 refine go [rd 0 0 1 0 1 z]<|AF call183 (Ig b n A) E fun _ F=> ?_
 obtain⟨T14,m,G⟩:=DV F
 have aa:=m.2.1;have ab:=m.2.2.1;have ac:=m.2.2.2.2
 have hAl:=m.1
 refine g0<|dw (AE [0,1,2,3,4,5,6,7,8,9] Tr.nil) G fun ad t=>go [rd 1 0 2 0 1 t,rd 1 3 2 0 1 t,rd 1 6 0 0 1 t,.s 1 7]<|lw (.slice (some ⟨b,1,none⟩) n 256) (fun _=>Cz (x:=Ot 11) (lo:=none) (hi:=(some (Ot 15))) (b:=b) (off:=1) kr underlying276 2 kr 0 (n:Int) 0 n kr rfl (show fe _ _ (Ot 15)=_ from by kernel_rfl) om om om om 1 (by split<;>omega) n 256 om om _) ?_
 have H:sat g _ (Tb b n A::_):=Bx m t
 refine g0 ?_
 refine Jc (fun mz_ a w=> ∃i:Nat,∃lr:Fr,mz_=n-i∧(i≤n)∧a=mk 36 (([(0,.func (Fn.yield k_) #[] #[]),(2,pV d),(16,.slice (some ⟨b,1,none⟩) n 256),(17,iV n),(18,iV i)]:Fr)++lr)∧sat g w [J_ (Ef q A i),Cl c [pV b] 171,Cl d [iV q] 3,Tb b n A,R]) (n-0) ⟨0,_,rfl,(Nat.zero_le _),(Ck [.k 0 (.func (Fn.yield k_) #[] #[]),.k 2 (pV d),.k 16 (.slice (some ⟨b,1,none⟩) n 256),.k 17 (iV n),.o 18 (oJ .i64 0 (0:Int))]),H.c.c.c.t5⟩ ?_
 rintro ae af ag ⟨i,ah,rfl,hi,rfl,B⟩
 refine ga<|go [.s 2 0] ?_
 by_cases C:(i:Int)<(n:Int)
 ·
  obtain⟨T31,l,u⟩:=DV B.c.t5
  have ai:=l.2.1;have aj:=l.2.2.1;have ak:=l.2.2.2.2
  refine go [.v 2 0 (oT _ C),.s 3 1]<|AS (.pointer (some ⟨b,i*2+1,none⟩)) (D5 (Ot 16) (Ot 18) b 1 (i:Int) n 256 underlying508 2 i (i*2+1)) ?_
  obtain⟨f,j⟩: ∃x:AM,A[i]? =some x:=⟨_,List.getElem?_eq_getElem (by rw[l.1];omega)⟩
  have al:=l.2.2.2.1 f (List.mem_of_getElem? j)
  refine go [.r 3 2 b (i*2+1) [iV f.1,uV f.2] ⟨AL u 0 rfl (Jh (Dq j) om),AL u 0 rfl (Hg (Dq j) om),trivial⟩]<|nP 275 [iV 0,uV 0] u (fun y _ I=> ?_)
  refine g0<|sA [iV f.1,uV f.2] I fun J L=> ?_
  have p:sat g _ (Tb b n A::_):=Bx l L.a.t6
  refine go [.s 4 99999] ?_
  refine Wy 9<|go [rd 4 1 1 0 1 p,rd 4 2 4 0 1 p,.s 4 3] ?_
  by_cases D:f.1=q
  ·
   have M:=p.d.d.d.t6
   refine go [.v 4 3 (G9 _ _ D),rd 4 8 1 1 1 p] ?_
   refine yY 4 (args:= [iV i,uV f.2]) (xa:=(fun i=> [iV ((((AJ q A 0).getD i (0,0)).1:Nat):Int),uV ((AJ q A 0).getD i (0,0)).2]) (Ef q A i)) (by show [iV ((((AJ q A 0).getD (Ef q A i) (0,0)).1:Nat):Int),uV ((AJ q A 0).getD (Ef q A i) (0,0)).2]=_;rw[getD_some (KD j om)]) (hY (Ef q A i) ((List.getElem?_eq_some_iff.1 (KD (q:=q) j om)).1) _ [Cl y [iV f.1,uV f.2] 275,R] M) ?_ ?_
   ·
    intro N O
    have P:sat g _ (J_ ((Ef q A i)+1)::_):=O
    have am:=((List.getElem?_eq_some_iff.1 (KD (q:=q) j om)).1:(Ef q A i)<((AJ q A 0).length))
    refine go [.v 5 0 (CD ((i:Int)+1))] ?_
    refine ET ?_
    have Q:sat g N [J_ (Ef q A (i+1)),Cl c [pV b] 171,Cl d [iV q] 3,Tb b n A,Cl y [iV f.1,uV f.2] 275,R]:=(show (Ef q A i)+1=(Ef q A (i+1)) from (Xm j om).symm)▸P
    have S:=Q.e.d.d.d.d.t6.t5
    change ∃n',n'<_∧_
    refine⟨(n-(i+1)),by omega,(i+1),_,rfl,om,(Ck [.k 0 (.func (Fn.yield k_) #[] #[]),.k 2 (pV d),.k 16 (.slice (some ⟨b,1,none⟩) n 256),.k 17 (iV n),.o 18 (oJ .i64 ((i:Int)+1) (((i+1):Nat):Int))]),S⟩
   intro an T
   have U:sat g _ (E_ (Ef q A i)::_):=T
   have ao:=((List.getElem?_eq_some_iff.1 (KD (q:=q) j om)).1:(Ef q A i)<((AJ q A 0).length))
   refine g0<|up<|g0 ?_
   exact en (.tuple #[]) [] ⟨⟨_,rfl⟩,.inr ⟨(Ef q A i),om,U.b.a.t3.t2⟩⟩
  refine go [.v 4 3 (DR _ _ D)] ?_
  refine yN 4<|go [.v 5 0 (CD ((i:Int)+1))] ?_
  refine ET ?_
  have V:=p.b.t6
  have W:sat g J [J_ (Ef q A (i+1)),Tb b n A,Cl y [iV f.1,uV f.2] 275,Cl c [pV b] 171,Cl d [iV q] 3,R]:=(show (Ef q A i)=(Ef q A (i+1)) from (Xn j om).symm)▸V
  have X:=W.e.b.e.e.d.t6.t5
  change ∃n',n'<_∧_
  refine⟨(n-(i+1)),by omega,(i+1),_,rfl,om,(Ck [.k 0 (.func (Fn.yield k_) #[] #[]),.k 2 (pV d),.k 16 (.slice (some ⟨b,1,none⟩) n 256),.k 17 (iV n),.o 18 (oJ .i64 ((i:Int)+1) (((i+1):Nat):Int))]),X⟩
 refine go [.v 2 0 (oF _ C)]<|up<|g0 ?_
 have he_:(Ef q A i)=((AJ q A 0).length):=(Tp q om)
 exact en (.tuple #[]) [] ⟨⟨_,rfl⟩,.inl (he_▸B)⟩
theorem Gb(b n:Nat)(A:List AM):HQ 231 [pV b] [Tb b n A] (.tuple #[.agg #[iV (Bn A).1,uV (Bn A).2.1],iV (Bn A).2.2]) [Tb b n (Ap A)]:=by
 refine AC func231 ntmps231 fun g w0 R h0=>g0<|nP 171 [pV b] h0 (fun o _ J=> ?_)
 refine nP 203 [iV 0,uV 0] J (fun l _ L=> ?_)
 refine nP 29 [iV 0] L (fun m _ C=> ?_)
 have M:=C.c.t5
 refine go [rd 1 0 2 0 1 C]<|AF call183 (Ig b n A) M fun _ D=>go [rd 3 0 3 0 1 D]<|cP call322 (kR b 0) D ?_
 rintro v K _ (⟨E,F,rfl,rfl⟩) O
 have H:=CW O
 have t:=DJ (j:=2) H rfl
 have am:=t.2.1;have an:=t.2.2.1
 have P:=H.c.d.e.t7
 refine g0 ?_
 refine kN (N:=((AJ 0 A 0).length)) (fun i K=>(i=0)∧K= [Cl o [pV b] 171,Cl l [iV 0,uV 0] 203,Cl m [iV 0] 29]) (fun c i K=>(c=Code.ret∧(i=0)∧K= [Cl o [pV b] 171,Cl l [iV ((((AJ 0 A 0).getD i (0,0)).1:Nat):Int),uV (((AJ 0 A 0).getD i (0,0)).2)] 203,Cl m [iV 0] 29,Tb b n (A.set ((AJ 0 A 0).getD i (0,0)).1 (1,((AJ 0 A 0).getD i (0,0)).2))])) call392 (kS E F b n 0 A om om) ⟨rfl,rfl⟩ P ?_ ?_ ?_
 ·
  rintro i Q lp_ ao K_ G ⟨u,rfl⟩ S
  have T:sat g _ (Cl o [pV b] 171::_):=S
  obtain⟨y,B,ap,U⟩: ∃x:AM,A[((AJ 0 A 0).getD i (0,0)).1]? =some x∧x.1=0∧x.2=((AJ 0 A 0).getD i (0,0)).2:=⟨_,To Q,rfl,rfl⟩
  have hlt_:((AJ 0 A 0).getD i (0,0)).1<n:=by have h_:=(List.getElem?_eq_some_iff.1 B).1;rw[t.1] at h_;exact h_
  obtain⟨T36,k,I⟩:=DV T.e.t7
  have aq:=k.2.1;have ar:=k.2.2.1;have au:=k.2.2.2.2
  refine go [rd 6 0 1 0 1 I,.s 6 4]<|AS (.pointer (some ⟨b,(((AJ 0 A 0).getD i (0,0)).1)*2+1,none⟩)) (AA (x:=Ot 17) (i:=Ot 15) (b:=b) (off:=1) (z:=((((AJ 0 A 0).getD i (0,0)).1:Nat):Int)) kr underlying276 2 kr (((AJ 0 A 0).getD i (0,0)).1) kr kr om om ((((AJ 0 A 0).getD i (0,0)).1)*2+1) om _)<|g0 ?_
  refine AH ?_
  refine Bc [((((AJ 0 A 0).getD i (0,0)).1)*2+1,iV 1)] (cs':=(Eh n ((A.set (((AJ 0 A 0).getD i (0,0)).1) (1,y.2))++T36))) kr kr (G5 ⟨⟨by rw[EB];omega,rfl⟩,trivial⟩) (MP B 1 om) I ?_
  intro av V
  refine Gq ?_
  have W:sat g _ (Tb b n (A.set (((AJ 0 A 0).getD i (0,0)).1) (1,y.2))::_):=Bx ⟨by simp only[List.length_set];exact k.1,k.2.1,k.2.2.1,(Hf k.2.2.2.1 (by have hk_:=k.2.2.2.1 _ (List.mem_of_getElem? B);omega)),by have h_:=k.2.2.2.2;simpa using h_⟩ V
  have X:=W.b.t7
  refine g0<|sA [iV ((((AJ 0 A 0).getD i (0,0)).1:Nat):Int),uV (((AJ 0 A 0).getD i (0,0)).2)] X fun _ Y=>sA [iV 0] Y.c.t7 fun Z aa=>g0 ?_
  have ab:=aa.b.t7
  have ac:sat g Z [Tb b n (A.set ((AJ 0 A 0).getD i (0,0)).1 (1,((AJ 0 A 0).getD i (0,0)).2)),Cl m [iV 0] 29,Cl l [iV ((((AJ 0 A 0).getD i (0,0)).1:Nat):Int),uV (((AJ 0 A 0).getD i (0,0)).2)] 203,Cl o [pV b] 171,Cl E [pV b] 171,Cl F [iV 0] 3,G]:=(show (1,y.2)=((1,((AJ 0 A 0).getD i (0,0)).2):AM) from by rw[U])▸ab
  exact xS ⟨rfl,u,rfl⟩ ac.f.a.b.c.d.t7.t5
 ·
  rintro D55 aw K_ ⟨u,rfl⟩ ad
  have ae:sat g _ (pt D55 (Obj.deferred (some []))::_):=ad
  have af:=ae.b.t8
  refine g0<|sA [iV 0,uV 0] af fun _ ag=>sA [iV 4] ag.c.t8 fun _ ah=>g0 ?_
  refine LM (.tuple #[.agg #[iV 0,uV 0],iV 4]) ah.b.t8 (fun ai p=> [rd 0 0 2 0 2 p,rd 0 0 1 0 1 p]) (fun ai p=> ?_) [iV 0,uV 0,iV 4] [(⟨l,0,none⟩,iV 0),(⟨l,1,none⟩,uV 0),(⟨m,0,none⟩,iV 4)]
  exact⟨_,[Tb b n A],rfl,⟨by rw[(Dj om).1],by rw[(Dj om).2]⟩,p.f.t8.x.a.t2⟩
 rintro D70 ax ex_ i K_ ay (⟨rfl,u,rfl⟩) aj
 have ak:sat g _ (pt D70 (Obj.deferred (some []))::_):=aj
 refine g0 ?_
 refine LM (.tuple #[.agg #[iV ((((AJ 0 A 0).getD i (0,0)).1:Nat):Int),uV (((AJ 0 A 0).getD i (0,0)).2)],iV 0]) ak (fun al q=> [rd 0 0 2 0 2 q,rd 0 0 3 0 1 q]) (fun al q=> ?_) [iV ((((AJ 0 A 0).getD i (0,0)).1:Nat):Int),uV (((AJ 0 A 0).getD i (0,0)).2),iV 0] [(⟨l,0,none⟩,iV ((((AJ 0 A 0).getD i (0,0)).1:Nat):Int)),(⟨l,1,none⟩,uV (((AJ 0 A 0).getD i (0,0)).2)),(⟨m,0,none⟩,iV 0)]
 exact⟨_,[Tb b n (A.set ((AJ 0 A 0).getD i (0,0)).1 (1,((AJ 0 A 0).getD i (0,0)).2))],rfl,⟨by obtain rfl:i=0:=(by omega);rw[(CQ om).1],by obtain rfl:i=0:=(by omega);rw[(CQ om).2]⟩,q.d.t6.e.a.t2⟩
theorem Hi(n:Nat)(hn:1≤n∧n≤256)(gn:Int)(hgn:1≤gn∧gn≤4294967295):HT prog 67 [iV n,uV gn] [] (fun v K=> ∃b:Nat,v= .tuple #[pV b,iV 0]∧K= [Tb b n (List.replicate n (0,gn))]):=by
 refine AC func67 ntmps67 fun g w0 R h0=>go [.v 1 1 (oF ((n:Int)<1)),.v 1 4 (oF ((n:Int)>256))]<|AP call68 (FB gn om om) h0 fun _ j=>g0 ?_
 refine AH ?_
 refine NC (d:=21) (fun xb_=>pV xb_) (fun xb_=>Obj.cells (Eh n (List.replicate 256 (0,0))).toArray 278 (0,0)) (fun xb_=>by kernel_rfl) kr rfl j ?_
 intro c l (m:sat g l [Cl c (Eh n (List.replicate 0 (0,gn)++List.replicate (256-0) (0,0))) 278,R])
 refine B1<|g0 ?_
 refine Jc (fun mz_ a w=> ∃i:Nat,∃lr:Fr,mz_=n-i∧(i≤n)∧a=mk 35 (([(1,uV gn),(6,pV c),(22,iV n),(23,iV i)]:Fr)++lr)∧sat g w [Cl c (Eh n (List.replicate i (0,gn)++List.replicate (256-i) (0,0))) 278,R]) (n-0) ⟨0,_,rfl,(Nat.zero_le _),(Ck [.k 1 (uV gn),.k 6 (pV c),.k 22 (iV n),.o 23 (oJ .i64 0 (0:Int))]),m⟩ ?_
 rintro t u y ⟨i,A,rfl,hi,rfl,e⟩
 refine ga<|go [.s 5 0] ?_
 by_cases f:(i:Int)<(n:Int)
 ·
  refine go [.v 5 0 (oT _ f),.s 7 5]<|AS (.pointer (some ⟨c,i*2+1,none⟩)) (AA (x:=Ot 30) (i:=Ot 27) (b:=c) (off:=1) (z:=(i:Int)) kr underlying276 2 kr i kr kr om om (i*2+1) om _)<|g0 ?_
  refine AH ?_
  refine Bc [(i*2+2,uV gn)] (cs':=(Eh n (List.replicate (i+1) (0,gn)++List.replicate (256-(i+1)) (0,0)))) kr kr (G5 ⟨⟨by rw[EB,List.length_append,List.length_replicate,List.length_replicate];omega,rfl⟩,trivial⟩) (dH (i:=i) om om) e ?_
  intro _ p
  refine Gq<|go [.v 8 0 (CD ((i:Int)+1))] ?_
  exact kB (n-(i+1)) ⟨(i+1),_,rfl,om,(Ck [.k 1 (uV gn),.k 6 (pV c),.k 22 (iV n),.o 23 (oJ .i64 ((i:Int)+1) (((i+1):Nat):Int))]),p⟩
 refine go [.v 5 0 (oF _ f)]<|up<|g0 ?_
 obtain rfl:i=n:=by omega
 have q:sat g _ (Tb c i (List.replicate i (0,gn))::_):=Bx (mT om om om om) e
 exact en _ [] ⟨_,_,rfl,⟨c,rfl,rfl⟩,q⟩
theorem dK(s gn:Int)(hs:s=0):HQ 356 [.agg #[iV s,uV gn]] [] (bT) []:=by
 refine AC func356 ntmps356 fun g w0 R h0=>g0<|nP 275 [iV s,uV gn] h0 (fun _ _ b=> ?_)
 refine go [rd 1 1 0 0 1 b,.v 1 2 (G9 s 0)] ?_
 exact AD _ [] b.a.t1
theorem dL(s gn:Int)(hs: ¬s=0):HQ 356 [.agg #[iV s,uV gn]] [] (bF) []:=by
 refine AC func356 ntmps356 fun g w0 R h0=>g0<|nP 275 [iV s,uV gn] h0 (fun _ _ b=> ?_)
 refine go [rd 1 1 0 0 1 b,.v 1 2 (DR s 0)] ?_
 exact AD _ [] b.a.t1
theorem VV(b n:Nat)(A:List AM):HQ 355 [pV b,.func (Fn.func 356) #[] #[]] [Tb b n A] (iV (((AJ 0 A 0).length:Nat):Int)) [Tb b n A]:=by
 refine AC func355 ntmps355 fun g w0 R h0=> ?_
 obtain⟨T10,l,y⟩:=DV h0
 have H:=l.2.1;have I:=l.2.2.1;have J:=l.2.2.2.2
 have hAl:=l.1
 refine g0<|AF call183 (Ga b n _ om) y fun _ z=>g0<|dw (AE [0,1,2,3,4,5,6,7,8,9] Tr.nil) z fun _ t=>go [rd 4 6 0 0 1 t,.s 4 7]<|lw (.slice (some ⟨b,1,none⟩) n 256) (fun _=>Cz (x:=Ot 13) (lo:=none) (hi:=(some (Ot 17))) (b:=b) (off:=1) kr underlying276 2 kr 0 (n:Int) 0 n kr rfl (show fe _ _ (Ot 17)=_ from by kernel_rfl) om om om om 1 (by split<;>omega) n 256 om om _)<|g0 ?_
 have c:Ef 0 A 0=0:=rfl
 refine Jc (fun mz_ a w=> ∃i:Nat,∃lr:Fr,mz_=n-i∧(i≤n)∧a=mk 31 (([(1,.func (Fn.func 356) #[] #[]),(5,iV ((Ef 0 A i:Nat):Int)),(18,.slice (some ⟨b,1,none⟩) n 256),(19,iV n),(20,iV i)]:Fr)++lr)∧sat g w [Cl b (Eh n (A++T10)) 278,R]) (n-0) ⟨0,_,rfl,(Nat.zero_le _),(Ck [.k 1 (.func (Fn.func 356) #[] #[]),.o 5 (oJ .i64 0 ((Ef 0 A 0:Nat):Int)),.k 18 (.slice (some ⟨b,1,none⟩) n 256),.k 19 (iV n),.o 20 (oJ .i64 0 (0:Int))]),t⟩ ?_
 rintro L M N ⟨i,O,rfl,hi,rfl,p⟩
 refine ga ?_
 have d:=mQ 0 A i;have e:=DU 0 A 0
 have f:Ef 0 A i≤n:=by omega
 refine go [.s 5 0] ?_
 by_cases u:(i:Int)<(n:Int)
 ·
  refine go [.v 5 0 (oT _ u),.s 6 0]<|AS (.pointer (some ⟨b,i*2+1,none⟩)) (D5 (Ot 18) (Ot 20) b 1 (i:Int) n 256 underlying508 2 i (i*2+1)) ?_
  obtain⟨j,m⟩: ∃x:AM,A[i]? =some x:=⟨_,List.getElem?_eq_getElem (by rw[l.1];omega)⟩
  have P:=l.2.2.2.1 j (List.mem_of_getElem? m)
  refine go [.r 6 1 b (i*2+1) [iV j.1,uV j.2] ⟨AL p 0 rfl (Jh (Dq m) om),AL p 0 rfl (Hg (Dq m) om),trivial⟩]<|nP 275 [iV 0,uV 0] p (fun _ _ B=> ?_)
  refine sA [iV j.1,uV j.2] B fun _ q=>go [rd 7 1 0 0 2 q] ?_
  by_cases Q:j.1=0
  ·
   refine AP call356 (dK j.1 j.2 om) q fun _ C=>go [.v 8 1 (CD (((Ef 0 A i:Nat):Int)+1)),.v 9 0 (CD ((i:Int)+1))] ?_
   refine ET ?_
   have hc_:Ef 0 A (i+1)=(Ef 0 A i)+1:=Xm m om
   have D:=C.b.b.t3.t2
   change ∃n',n'<_∧_
   refine⟨(n-(i+1)),by omega,(i+1),_,rfl,om,(Ck [.k 1 (.func (Fn.func 356) #[] #[]),.o 5 (oJ .i64 (((Ef 0 A i:Nat):Int)+1) ((Ef 0 A (i+1):Nat):Int)),.k 18 (.slice (some ⟨b,1,none⟩) n 256),.k 19 (iV n),.o 20 (oJ .i64 ((i:Int)+1) (((i+1):Nat):Int))]),D⟩
  refine AP call356 (dL j.1 j.2 om) q fun _ E=>go [.v 9 0 (CD ((i:Int)+1))] ?_
  refine ET ?_
  have hc_:Ef 0 A (i+1)=(Ef 0 A i):=Xn m om
  have F:=E.b.b.t3.t2
  change ∃n',n'<_∧_
  refine⟨(n-(i+1)),by omega,(i+1),_,rfl,om,(Ck [.k 1 (.func (Fn.func 356) #[] #[]),.o 5 (oJ .i64 ((Ef 0 A i:Nat):Int) ((Ef 0 A (i+1):Nat):Int)),.k 18 (.slice (some ⟨b,1,none⟩) n 256),.k 19 (iV n),.o 20 (oJ .i64 ((i:Int)+1) (((i+1):Nat):Int))]),F⟩
 refine go [.v 5 0 (oF _ u)]<|up<|g0 ?_
 have hc_:Ef 0 A i=(AJ 0 A 0).length:=Tp 0 om
 have G:sat g _ (Tb b n A::_):=Bx l p
 exact en (iV ((Ef 0 A i:Nat):Int)) [] ⟨_,_,rfl,⟨by rw[hc_],rfl⟩,G⟩
theorem Hj(b n:Nat)(A:List AM):HQ 279 [pV b] [Tb b n A] (iV (((AJ 0 A 0).length:Nat):Int)) [Tb b n A]:=by
 refine AC func279 ntmps279 fun g w0 R h0=>g0<|AF call355 (VV b n A) h0 fun _ a=>g0 ?_
 exact AD _ [] a
theorem GB(b n:Nat)(A:List AM):HT prog 459 [pV b] [Tb b n A] (fun v K=> ∃(p:Option Addr) (c:Nat),v= .slice p ((AJ 1 A 0).length) c∧K= [Tb b n A,Sl 203 2 p ((AJ 1 A 0).length) c (fl He (AJ 1 A 0))]):=by
 refine AC func459 ntmps459 fun g w0 R h0=>g0<|nP 392 [.slice none 0 0] h0 (fun m _ C=> ?_)
 refine g0<|cP call322 (kR b 1) C ?_
 rintro v K U (⟨o,q,rfl,rfl⟩) D
 have s:=CW D
 have t:=DJ (j:=3) s rfl
 have V:=t.2.1;have W:=t.2.2.1
 have hl_:((AJ 1 A 0).length)≤256:=by have h_:=DU 1 A 0;omega
 have hz_:(AJ 1 A 0).take 0= []:=rfl
 have E:sat g _ (Sl 203 2 none 0 0 (fl He [])::_):=CP 203 2 s
 have F:=E.c.t6
 refine g0 ?_
 refine kN (N:=((AJ 1 A 0).length)) (fun i K=> ∃p:Option Addr,∃c:Nat,K= [Cl m [.slice p i c] 392,Sl 203 2 p i c (fl He ((AJ 1 A 0).take i))]) (fun c _ K=>False) call392 (kS o q b n 1 A om om) ⟨none,0,rfl⟩ F ?_ ?_ ?_
 ·
  rintro i X lp_ Y K_ G ⟨p,c,rfl⟩ H
  have u:sat g _ (Cl m [.slice p i c] 392::_):=H
  refine go [rd 5 0 0 0 1 u]<|nG (fun q_=> .slice (some ⟨q_,0,none⟩) 1 1) 203 [iV ((((AJ 1 A 0).getD i (0,0)).1:Nat):Int),uV (((AJ 1 A 0).getD i (0,0)).2)] u (fun x _ I=>⟨kd [],?_⟩)
  have y:=I.b.t7
  refine AH ?_
  refine aA 15 2 (Ot 10) (Ot 14) (.agg #[iV 0,uV 0]) p i c 1 1 (⟨x,0,none⟩) 16 underlying392 y (fl He [((((AJ 1 A 0).getD i (0,0)).1),((AJ 1 A 0).getD i (0,0)).2)]) rfl (Br y rfl) (Aw Bf _) (i+1) ?_
  intro k l Z J
  have z:sat g _ (Sl 203 2 k (i+1) l (fl He (((AJ 1 A 0).take i)++ [((((AJ 1 A 0).getD i (0,0)).1),((AJ 1 A 0).getD i (0,0)).2)]))::_):=sJ J
  obtain⟨aa,ab⟩:=BH z
  refine B1<|sA [.slice k (i+1) l] z.b.t7 fun L M=>g0 ?_
  have O:=M.a.t7
  have P:sat g L [Sl 203 2 k (i+1) l (fl He ((AJ 1 A 0).take (i+1))),Cl m [.slice k (i+1) l] 392,Cl x [iV ((((AJ 1 A 0).getD i (0,0)).1:Nat):Int),uV (((AJ 1 A 0).getD i (0,0)).2)] 203,Cl o [pV b] 171,Cl q [iV 1] 3,Tb b n A,G]:=(show (((AJ 1 A 0).take i)++ [((((AJ 1 A 0).getD i (0,0)).1),((AJ 1 A 0).getD i (0,0)).2)])=((AJ 1 A 0).take (i+1)) from Ie om)▸O
  exact bU ⟨k,l,rfl⟩ P.f.f.f.f.d.e.t7.t6
 ·
  rintro D45 ac K_ ⟨p,c,rfl⟩ Q
  have S:sat g _ (pt D45 (Obj.deferred (some []))::_):=Q
  have B:sat g _ (Sl 203 2 p ((AJ 1 A 0).length) c (fl He (AJ 1 A 0))::_):=AI S.b.t7 (fun _ hh=>by rw[List.take_length] at hh;exact hh)
  refine go [rd 6 0 2 0 1 B] ?_
  refine LM (.slice p ((AJ 1 A 0).length) c) B.a.t7 (fun _ _=> []) (fun _ T=> ?_) [] []
  exact⟨_,_,rfl,⟨p,c,rfl,rfl⟩,T.a.e.t7.f.b.b.t3⟩
 intro _ _ _ _ _ _ hf_;exact hf_.elim
theorem Hk(b n:Nat)(A:List AM)(q:Nat)(x:AM)(hx:A[q]? =some x)(ix gn:Int)(hc:ix=(q:Int)∧x.1=1∧x.2=gn):HQ 382 [pV b,.agg #[iV ix,uV gn]] [Tb b n A] (iV 0) [Tb b n (Ak A q gn)]:=by
 refine AC func382 ntmps382 fun g w0 R o=> ?_
 have l:=DJ (j:=0) o rfl
 have hq_:q<n:=by have h_:=(List.getElem?_eq_some_iff.1 hx).1;rw[l.1] at h_;exact h_
 have hx_:=l.2.2.2 x (List.mem_of_getElem? hx)
 have c:=l.2.1;have d:=l.2.2.1;have e:=l.2.2.2
 refine g0<|nP 203 [iV ix,uV gn] o (fun p _ t=> ?_)
 have C:=t.a.t3
 refine go [rd 1 1 0 0 2 t]<|AF call325 (GA b n A q x hx ix gn om) C fun _ m=>go [rd 4 1 1 1 1 m] ?_
 by_cases Q:gn<4294967295
 ·
  refine AP call426 (dI gn om om) m fun _ D=> ?_
  obtain⟨T20,f,E⟩:=DV D
  have S:=f.2.1;have T:=f.2.2.1;have U:=f.2.2.2.2
  refine g0<|dw (AE [0,1,2,3,4,5,6,7] (Tr.an 8 Tr.nil)) E fun _ u=>go [rd 6 2 1 0 1 u,.s 6 7]<|lw (.pointer (some ⟨b,q*2+1,none⟩)) (fun _=>AA (x:=Ot 29) (i:=Ot 25) (b:=b) (off:=1) (z:=ix) kr underlying276 2 kr q kr kr om om (q*2+1) om _) ?_
  refine AH ?_
  refine Bc [(q*2+1,iV 0),(q*2+2,uV (gn+1))] (cs':=(Eh n ((A.set q (0,gn+1))++T20))) kr kr (G5 ⟨⟨by rw[EB];omega,rfl⟩,⟨by rw[EB];omega,rfl⟩,trivial⟩) (VS hx 0 (gn+1) om om) u ?_
  intro F G
  refine⟨kd [],IK ?_⟩
  have hA_:(A.set q (0,gn+1))=Ak A q gn:=by unfold Ak;rw[if_pos om]
  have H:sat g F [Cl b (Eh n ((Ak A q gn)++T20)) 278,Cl p [iV ix,uV gn] 203,R]:=hA_▸G
  have I:sat g _ (Tb b n (Ak A q gn)::_):=Bx ⟨by unfold Ak;split<;>(rw[List.length_set];exact f.1),f.2.1,f.2.2.1,If f.2.2.2.1 hx om,by have h_:=f.2.2.2.2;rw[List.length_append] at h_ ⊢;unfold Ak;split<;>(rw[List.length_set];exact h_)⟩ H
  refine g0 ?_
  exact AD _ [] I.B.t2
 refine AP call426 (dJ gn om) m fun _ J=> ?_
 obtain⟨T35,k,L⟩:=DV J
 have V:=k.2.1;have W:=k.2.2.1;have X:=k.2.2.2.2
 refine g0<|dw (AE [0,1,2,3,4,5,6] (Tr.an 7 Tr.nil)) L fun _ y=>go [rd 7 2 1 0 1 y,.s 7 5]<|lw (.pointer (some ⟨b,q*2+1,none⟩)) (fun _=>AA (x:=Ot 35) (i:=Ot 33) (b:=b) (off:=1) (z:=ix) kr underlying276 2 kr q kr kr om om (q*2+1) om _)<|g0 ?_
 refine AH ?_
 refine Bc [(q*2+1,iV 2)] (cs':=(Eh n ((A.set q (2,x.2))++T35))) kr kr (G5 ⟨⟨by rw[EB];omega,rfl⟩,trivial⟩) (MP hx 2 om) y ?_
 intro M N
 refine⟨kd [],IK ?_⟩
 have hA_:(A.set q (2,x.2))=Ak A q gn:=by unfold Ak;rw[if_neg om,show x.2=gn from by omega]
 have O:sat g M [Cl b (Eh n ((Ak A q gn)++T35)) 278,Cl p [iV ix,uV gn] 203,R]:=hA_▸N
 have P:sat g _ (Tb b n (Ak A q gn)::_):=Bx ⟨by unfold Ak;split<;>(rw[List.length_set];exact k.1),k.2.1,k.2.2.1,If k.2.2.2.1 hx om,by have h_:=k.2.2.2.2;rw[List.length_append] at h_ ⊢;unfold Ak;split<;>(rw[List.length_set];exact h_)⟩ O
 refine g0 ?_
 exact AD _ [] P.B.t2
theorem EN(b n:Nat)(A:List AM):HT prog 120 [pV b] [Tb b n A] (fun v K=> ∃f:Nat,v=pV f∧K= [Tb b n A,Tb f n A]):=by
 refine AC func120 ntmps120 fun g w0 R h0=>g0<|AF call183 (Ig b n A) h0 fun _ j=> ?_
 obtain⟨T12,c,i⟩:=DV j
 have q:=c.2.1;have u:=c.2.2.1;have z:=c.2.2.2.2
 refine go [.s 3 2]<|AS (.agg (Eh n (A++T12)).toArray) (EZ (x:=Ot 8) kr 0 i rfl _ rfl underlying278 (by rw[EB,c.2.2.2.2];kernel_rfl) kr) ?_
 refine AH ?_
 refine NC (d:=3) (fun xb_=>pV xb_) (fun xb_=>Obj.cells (Eh 0 (List.replicate 256 (0,0))).toArray 278 (0,0)) (fun xb_=>by kernel_rfl) kr rfl i ?_
 intro e k (l:sat g k [Cl e (Eh 0 (List.replicate 256 (0,0))) 278,Cl b (Eh n (A++T12)) 278,R])
 refine B1 ?_
 refine AH ?_
 refine Ea (t:=278) (x:=Ot 3) (y:=Ot 9) (cs:=(Eh n (A++T12))) kr kr l (by rw[EB,c.2.2.2.2];kernel_rfl) (by rw[EB,EB,c.2.2.2.2,List.length_replicate]) (dG _ _) kr kr ?_
 intro B m
 refine Gq<|g0 ?_
 have o:sat g _ (Tb e n A::_):=Bx c m
 have p:sat g _ (Tb b n A::_):=Bx c o.a.t3
 exact en _ [] ⟨_,_,rfl,⟨e,rfl,rfl⟩,p⟩
def LN(L:List UInt8)(p:Nat):Prop:=((JT L p).1=65533∧ ¬(L.drop p).take 3= [239,191,189])∨(JT L p).1<32∨(JT L p).1=127
instance (L:List UInt8) (p:Nat):Decidable (LN L p):=by unfold LN;infer_instance
def C1(L:List UInt8):Nat→Nat→Nat→Option Nat
 |0,_,n=>some n
 |f+1,p,n=>if L.length≤p then some n else if LN L p then none else C1 L f (p+(JT L p).2) (n+1)
theorem Xt{L:List UInt8}{f p n:Nat}(h:L.length≤p):C1 L f p n=some n:=by
 cases f with
 |zero=>rfl
 |succ f=>exact if_pos h
theorem KG{L:List UInt8}{f p n:Nat}(h:p<L.length)(hf:L.length≤p+f)(hb:LN L p):C1 L f p n=none:=by
 cases f with
 |zero=>omega
 |succ f=>
  show (if L.length≤p then _ else _)=_
  rw[if_neg om,if_pos hb]
theorem Tt{L:List UInt8}{f p n:Nat}(h:p<L.length)(hf:L.length≤p+f)(hb: ¬LN L p):C1 L f p n=C1 L (f-1) (p+(JT L p).2) (n+1):=by
 cases f with
 |zero=>omega
 |succ f=>
  show (if L.length≤p then _ else _)=_
  rw[if_neg om,if_neg hb]
  rfl
def Hl(L:List UInt8):Nat:=(C1 L L.length 0 0).getD 0
def KH(L:List UInt8):Bool:=(C1 L L.length 0 0).isSome
def Ag(L:List UInt8):Int:=if 96<L.length then 16 else if KH L=true∧1≤Hl L∧Hl L≤24 then 0 else 16
theorem Tu(L:List UInt8):Ag L=0∨Ag L=16:=by
 unfold Ag
 split
 · exact .inr rfl
 · split
   · exact .inl rfl
   · exact .inr rfl
theorem Tv{L:List UInt8}{a b c:UInt8}(h:L.take 3= [a,b,c]):3≤L.length:=by
 have:=congrArg List.length h
 rw[List.length_take] at this
 simp only[List.length_cons,List.length_nil] at this
 omega
theorem mU(L:List UInt8)(h:L.take 3= [239,191,189])(hm:L.length≤1099511627776):HQ 133 [sV L,sV [239,191,189]] [] (bT) []:=by
 have hl_:=Tv h
 refine AC func133 ntmps133 fun g w0 R h0=>go [.v 1 1 (⟨iV ((St L).size:Int),iV (L.length:Int),(BE (Ro _))⟩),.v 1 3 (⟨iV ((St [239,191,189]).size:Int),iV 3,(BE rfl)⟩),.v 1 4 (oT ((L.length:Int)≥3)),.v 1 8 (⟨iV ((St [239,191,189]).size:Int),iV 3,(BE rfl)⟩),.s 1 9]<|AS (.string (St (L.take 3))) (Dh (t:=9) (x:=Ot 11) (y:=Ot 13) (L:=L) (z:=3) kr underlying9 kr kr 3 om om _)<|go [.s 1 11]<|AS (.bool true) (DI (t:=9) (x:=Ot 14) (y:=Ot 15) (a:=(L.take 3)) (b:= [239,191,189]) kr kr kr true (decide_eq_true h) _)<|g0 ?_
 exact AD _ [] h0
theorem mV(L:List UInt8)(h: ¬L.take 3= [239,191,189])(hm:L.length≤1099511627776):HQ 133 [sV L,sV [239,191,189]] [] (bF) []:=by
 refine AC func133 ntmps133 fun g w0 R c=>go [.v 1 1 (⟨iV ((St L).size:Int),iV (L.length:Int),(BE (Ro _))⟩),.v 1 3 (⟨iV ((St [239,191,189]).size:Int),iV 3,(BE rfl)⟩),.s 1 4] ?_
 by_cases d:(L.length:Int)≥3
 ·
  refine go [.v 1 4 (oT _ d),.v 1 8 (⟨iV ((St [239,191,189]).size:Int),iV 3,(BE rfl)⟩),.s 1 9]<|AS (.string (St (L.take 3))) (Dh (t:=9) (x:=Ot 11) (y:=Ot 13) (L:=L) (z:=3) kr underlying9 kr kr 3 om om _)<|go [.s 1 11]<|AS (.bool false) (DI (t:=9) (x:=Ot 14) (y:=Ot 15) (a:=(L.take 3)) (b:= [239,191,189]) kr kr kr false (decide_eq_false h) _)<|g0 ?_
  exact AD _ [] c
 refine go [.v 1 4 (oF _ d)] ?_
 exact AD _ [] c
theorem tP(L:List UInt8)(h:L.take 3= [239,191,189])(hm:L.length≤1099511627776):HQ 77 [sV L,sV [239,191,189]] [] (bT) []:=by
 have hl_:=Tv h
 refine AC func77 ntmps77 fun g w0 R h0=>g0<|AP call133 (mU L (by assumption) om) h0 fun _ a=>g0 ?_
 exact AD _ [] a
theorem tQ(L:List UInt8)(h: ¬L.take 3= [239,191,189])(hm:L.length≤1099511627776):HQ 77 [sV L,sV [239,191,189]] [] (bF) []:=by
 refine AC func77 ntmps77 fun g w0 R h0=>g0<|AP call133 (mV L (by assumption) om) h0 fun _ a=>g0 ?_
 exact AD _ [] a
theorem Xu(c:Int)(h:32≤c∧c≠127):HQ 195 [.int .i32 c] [] (bT) []:=by
 refine AC func195 ntmps195 fun g w0 R h0=>go [.v 1 1 (oT (c≥32)),.v 1 4 (Tc c 127)] ?_
 exact AD _ [] h0
theorem Xv(c:Int)(h:c<32∨c=127):HQ 195 [.int .i32 c] [] (bF) []:=by
 refine AC func195 ntmps195 fun g w0 R a=>go [.s 1 1] ?_
 by_cases b:c≥32
 ·
  refine go [.v 1 1 (oT _ b),.v 1 4 (Db c 127)] ?_
  exact AD _ [] a
 refine go [.v 1 1 (oF _ b)] ?_
 exact AD _ [] a
theorem Tw(L:List UInt8)(hm:L.length≤1099511627776):HQ 194 [sV L,.func (Fn.func 195) #[] #[]] [] (.tuple #[iV (Hl L:Int),.bool (KH L)]) []:=by
 refine AC func194 ntmps194 fun g w0 R h0=>g0 ?_
 refine AH ?_
 refine B5 (t:=9) (d:=10) (x:=Ot 9) (L:=L) kr kr rfl underlying9 kr h0 ?_
 intro e _ q
 refine B1<|g0 ?_
 refine Jc (fun mz_ a w=> ∃p:Nat,∃n:Nat,∃f:Nat,∃lr:Fr,mz_=L.length-p∧(n≤p)∧(L.length≤p+f)∧(C1 L L.length 0 0=C1 L f p n)∧a=mk 33 (([(0,sV L),(1,.func (Fn.func 195) #[] #[]),(6,iV n),(10,pV e)]:Fr)++lr)∧sat g w [Si e L p,R]) (L.length-0) ⟨0,0,L.length,_,rfl,(Nat.le_refl _),om,rfl,(Ck [.k 0 (sV L),.k 1 (.func (Fn.func 195) #[] #[]),.o 6 (oJ .i64 0 (0:Int)),.k 10 (pV e)]),q⟩ ?_
 rintro F G H ⟨p,n,f,I,rfl,hn_,hf_,ht_,rfl,l⟩
 refine ga<|g0 ?_
 by_cases J:p<L.length
 ·
  have M:=cU (L:=L) (p:=p) om;have N:=cV L p
  refine AH ?_
  refine Td (d:=11) (x:=Ot 10) (r:=e) (L:=L) (p:=p) kr kr rfl kr l om om ?_
  intro _ i
  refine B1<|go [.s 5 1] ?_
  by_cases m:(((JT L p).1:Nat):Int)=65533
  ·
   refine go [.v 5 1 (G9 _ _ m),.s 5 5]<|AS (sV (L.drop p)) (PX (t:=9) (x:=Ot 18) (y:=Ot 19) (L:=L) (z:=(p:Int)) kr underlying9 kr kr p om om _) ?_
   by_cases O:(L.drop p).take 3=([239,191,189]:List UInt8)
   ·
    refine AP call77 (tP (L.drop p) (by assumption) (by rw[List.length_drop];omega)) i fun _ u=> ?_
    refine g0<|AP call195 (Xu (((JT L p).1:Nat):Int) om) u fun _ A=>go [.v 7 1 (CD ((n:Int)+1))] ?_
    refine ET ?_
    have hg_: ¬LN L p:=by
     rintro(⟨b,c⟩|b|b)<;>first|omega|exact absurd (by assumption) c
    change ∃n',n'<_∧_
    refine⟨(L.length-(p+((JT L p).2))),by omega,p+((JT L p).2),(n+1),(f-1),_,rfl,om,om,(ht_.trans (Tt om hf_ hg_)),(Ck [.k 0 (sV L),.k 1 (.func (Fn.func 195) #[] #[]),.o 6 (oJ .i64 ((n:Int)+1) (((n+1):Nat):Int)),.k 10 (pV e)]),A⟩
   refine AP call77 (tQ (L.drop p) (by assumption) (by rw[List.length_drop];omega)) i fun _ B=> ?_
   refine g0<|up<|g0 ?_
   have hb_:LN L p:=by
    first|exact .inr (.inl om)|exact .inr (.inr om)|exact .inl ⟨by omega,by assumption⟩
   have hs_:C1 L L.length 0 0=none:=ht_.trans (KG om hf_ hb_)
   exact en (.tuple #[iV 0,bF]) [] ⟨_,_,rfl,⟨by unfold Hl KH;rw[hs_];rfl,rfl⟩,B.a.t1⟩
  refine go [.v 5 1 (DR _ _ m)] ?_
  by_cases P:32≤(((JT L p).1:Nat):Int)
  ·
   by_cases Q:(((JT L p).1:Nat):Int)=127
   ·
    refine AP call195 (Xv (((JT L p).1:Nat):Int) om) i fun _ C=>g0<|up<|g0 ?_
    have hb_:LN L p:=by
     first|exact .inr (.inl om)|exact .inr (.inr om)|exact .inl ⟨by omega,by assumption⟩
    have hs_:C1 L L.length 0 0=none:=ht_.trans (KG om hf_ hb_)
    exact en (.tuple #[iV 0,bF]) [] ⟨_,_,rfl,⟨by unfold Hl KH;rw[hs_];rfl,rfl⟩,C.a.t1⟩
   refine AP call195 (Xu (((JT L p).1:Nat):Int) om) i fun _ D=>go [.v 7 1 (CD ((n:Int)+1))] ?_
   refine ET ?_
   have hg_: ¬LN L p:=by
    rintro(⟨b,c⟩|b|b)<;>first|omega|exact absurd (by assumption) c
   change ∃n',n'<_∧_
   refine⟨(L.length-(p+((JT L p).2))),by omega,p+((JT L p).2),(n+1),(f-1),_,rfl,om,om,(ht_.trans (Tt om hf_ hg_)),(Ck [.k 0 (sV L),.k 1 (.func (Fn.func 195) #[] #[]),.o 6 (oJ .i64 ((n:Int)+1) (((n+1):Nat):Int)),.k 10 (pV e)]),D⟩
  refine AP call195 (Xv (((JT L p).1:Nat):Int) om) i fun _ E=>g0<|up<|g0 ?_
  have hb_:LN L p:=by
   first|exact .inr (.inl om)|exact .inr (.inr om)|exact .inl ⟨by omega,by assumption⟩
  have hs_:C1 L L.length 0 0=none:=ht_.trans (KG om hf_ hb_)
  exact en (.tuple #[iV 0,bF]) [] ⟨_,_,rfl,⟨by unfold Hl KH;rw[hs_];rfl,rfl⟩,E.a.t1⟩
 refine AH ?_
 refine Cb (d:=11) (x:=Ot 10) (r:=e) (L:=L) (p:=p) kr kr rfl kr (j:=0) l rfl om ?_
 refine B1<|g0<|up<|g0 ?_
 have hs_:C1 L L.length 0 0=some n:=ht_.trans (Xt om)
 exact en (.tuple #[iV n,bT]) [] ⟨_,_,rfl,⟨by unfold Hl KH;rw[hs_];rfl,rfl⟩,l.a.t1⟩
theorem Xw(L:List UInt8)(hm:L.length≤1099511627776):HQ 131 [sV L] [] (iV (Ag L)) []:=by
 refine AC func131 ntmps131 fun g w0 R d=>go [.v 1 1 (⟨iV ((St L).size:Int),iV (L.length:Int),(BE (Ro _))⟩),.s 1 2] ?_
 by_cases i:(L.length:Int)>96
 ·
  refine go [.v 1 2 (oT _ i)] ?_
  exact en (iV 16) [] ⟨_,_,rfl,⟨by unfold Ag;rw[if_pos om],rfl⟩,d⟩
 refine go [.v 1 2 (oF _ i)] ?_
 rcases Bool.eq_false_or_eq_true (KH L) with e|e
 ·
  refine AP call194 (by have h_:=Tw L om;rw[e] at h_;exact h_) d fun _ f=> ?_
  refine go [.s 4 4] ?_
  by_cases j:((Hl L:Nat):Int)<1
  ·
   refine go [.v 4 4 (oT _ j)] ?_
   exact en (iV 16) [] ⟨_,_,rfl,⟨by unfold Ag;rw[if_neg om,if_neg (by rintro⟨a,b,c⟩;first|omega|simp_all)],rfl⟩,f⟩
  refine go [.v 4 4 (oF _ j),.s 4 8] ?_
  by_cases k:((Hl L:Nat):Int)>24
  ·
   refine go [.v 4 8 (oT _ k)] ?_
   exact en (iV 16) [] ⟨_,_,rfl,⟨by unfold Ag;rw[if_neg om,if_neg (by rintro⟨a,b,c⟩;first|omega|simp_all)],rfl⟩,f⟩
  refine go [.v 4 8 (oF _ k)] ?_
  exact en (iV 0) [] ⟨_,_,rfl,⟨by unfold Ag;rw[if_neg om,if_pos ⟨by assumption,by omega,by omega⟩],rfl⟩,f⟩
 refine AP call194 (by have h_:=Tw L om;rw[e] at h_;exact h_) d fun _ l=> ?_
 refine g0 ?_
 exact en (iV 16) [] ⟨_,_,rfl,⟨by unfold Ag;rw[if_neg om,if_neg (by rintro⟨a,b,c⟩;first|omega|simp_all)],rfl⟩,l⟩
def CH(x y z st why tr nx:Int):Prop:=(1≤x∧x≤3∧0≤y∧y≤63∧1≤z)∧((st=1∧why=0∧tr=0∧nx=0)∨(st=2∧1≤why∧why≤3∧0≤tr∧tr≤10000∧0≤nx∧nx≤1099511627776)∨((st=3∨st=4)∧1≤why∧why≤3∧0≤tr∧tr≤10000∧nx=0))
instance (x y z st why tr nx:Int):Decidable (CH x y z st why tr nx):=by unfold CH;infer_instance
structure Rs where
 out:Ky
 st:Int
 why:Int
 tr:Int
 nx:Int
 tag:List UInt8
def DG(r:Rs):List Value:= [iV r.out.1,iV r.out.2.1,uV r.out.2.2,iV r.st,iV r.why,iV r.tr,iV r.nx,sV r.tag]
theorem Ah:Enc 8 DG:=⟨fun _=>rfl,fun x v hv=>by simp[DG] at hv;rcases hv with rfl |rfl |rfl |rfl |rfl |rfl |rfl |rfl<;>rfl⟩
def DH(x y z st why tr nx:Int)(L:List UInt8):Int:=if CH x y z st why tr nx then Ag L else 2
theorem Na(v lo hi:Int)(h:lo≤v∧v≤hi):HT prog 387 [iV v,iV lo,iV hi] [] (fun r K=>r= bT∧K= []):=by
 refine AC func387 ntmps387 fun g w0 R h0=>go [.v 1 2 (oT (v≥lo)),.v 1 6 (oT (v≤hi))] ?_
 exact AD (bT) [] h0
theorem LO(v lo hi:Int)(h:v<lo∨hi<v):HT prog 387 [iV v,iV lo,iV hi] [] (fun r K=>r= bF∧K= []):=by
 refine AC func387 ntmps387 fun g w0 R a=>go [.s 1 2] ?_
 by_cases b:v≥lo
 ·
  refine go [.v 1 2 (oT _ b),.v 1 6 (oF (v≤hi))] ?_
  exact AD (bF) [] a
 refine go [.v 1 2 (oF _ b)] ?_
 exact AD (bF) [] a
theorem HA(v:Int)(h:0≤v∧v≤1099511627776):HT prog 388 [iV v] [] (fun r K=>r= bT∧K= []):=by
 refine AC func388 ntmps388 fun g w0 R h0=>g0<|AP call387 (Na v 0 1099511627776 om) h0 fun _ a=>g0 ?_
 exact AD (bT) [] a
theorem Nb(v:Int)(h:v<0∨1099511627776<v):HT prog 388 [iV v] [] (fun r K=>r= bF∧K= []):=by
 refine AC func388 ntmps388 fun g w0 R a=>g0 ?_
 by_cases d:0≤v
 ·
  refine AP call387 (LO v 0 1099511627776 om) a fun _ b=>g0 ?_
  exact AD (bF) [] b
 refine AP call387 (LO v 0 1099511627776 om) a fun _ c=>g0 ?_
 exact AD (bF) [] c
theorem MS:HQ 431 [] [] (.agg #[sV [],iV 0,bF,sV [108,105,118,101],iV 0,bF,sV [99,108,111,115,105,110,103],iV 3,bT,sV [114,101,108,101,97,115,101,100],iV 3,bF,sV [113,117,97,114,97,110,116,105,110,101],iV 3,bF]) []:=by
 refine AC func431 ntmps431 fun g w0 R h0=>g0<|nP 541 [sV [],iV 0,bF,sV [],iV 0,bF,sV [],iV 0,bF,sV [],iV 0,bF,sV [],iV 0,bF] h0 (fun _ _ c=> ?_)
 refine g0<|sA [sV [],iV 0,bF,sV [108,105,118,101],iV 0,bF,sV [99,108,111,115,105,110,103],iV 3,bT,sV [114,101,108,101,97,115,101,100],iV 3,bF,sV [113,117,97,114,97,110,116,105,110,101],iV 3,bF] c fun _ b=>g0 ?_
 exact AD _ [rd 0 0 0 0 15 b] b.a.t1
theorem Tx(x y z st why tr nx:Int)(L:List UInt8)(aw:0≤z)(ax:z≤4294967295):HQ 401 [.agg #[iV x,iV y,uV z,iV st,iV why,iV tr,iV nx,sV L]] [] (.bool (decide (CH x y z st why tr nx))) []:=by
 refine AC func401 ntmps401 fun g w0 R h0=>g0<|nP 226 [iV x,iV y,uV z,iV st,iV why,iV tr,iV nx,sV L] h0 (fun d _ f=> ?_)
 refine go [rd 1 1 0 0 3 f] ?_
 by_cases ay:1≤x
 ·
  by_cases az:x≤3;rotate_left
  ·
   refine AP call273 (Ao x y z om om om) f fun _ U=>g0 ?_
   exact en (bF) [] ⟨_,_,rfl,⟨by rw[decide_eq_false (by unfold CH;omega)],rfl⟩,U.a.t1⟩
  by_cases ba:0≤y;rotate_left
  ·
   refine AP call273 (Ao x y z om om om) f fun _ V=>g0 ?_
   exact en (bF) [] ⟨_,_,rfl,⟨by rw[decide_eq_false (by unfold CH;omega)],rfl⟩,V.a.t1⟩
  by_cases bc:y≤63;rotate_left
  ·
   refine AP call273 (Ao x y z om om om) f fun _ W=>g0 ?_
   exact en (bF) [] ⟨_,_,rfl,⟨by rw[decide_eq_false (by unfold CH;omega)],rfl⟩,W.a.t1⟩
  by_cases bd:1≤z;rotate_left
  ·
   refine AP call273 (Ao x y z om om om) f fun _ X=>g0 ?_
   exact en (bF) [] ⟨_,_,rfl,⟨by rw[decide_eq_false (by unfold CH;omega)],rfl⟩,X.a.t1⟩
  refine AP call273 (Bg x y z om om om) f fun _ o=>go [rd 1 6 0 3 1 o,.s 1 7] ?_
  by_cases E:st<1
  ·
   refine go [.v 1 7 (oT _ E)] ?_
   exact en (bF) [] ⟨_,_,rfl,⟨by rw[decide_eq_false (by unfold CH;omega)],rfl⟩,o.a.t1⟩
  refine go [.v 1 7 (oF _ E),rd 1 11 0 3 1 o,.s 1 12] ?_
  by_cases F:st>4
  ·
   refine go [.v 1 12 (oT _ F)] ?_
   exact en (bF) [] ⟨_,_,rfl,⟨by rw[decide_eq_false (by unfold CH;omega)],rfl⟩,o.a.t1⟩
  refine go [.v 1 12 (oF _ F),.s 3 100000] ?_
  refine jnS (fun a w=> ∃rb:Nat,∃hi:Int,∃bb:Bool,∃wd:List UInt8,∃lr:Fr,((st=1∧hi=0)∨((st=2∨st=3∨st=4)∧hi=3))∧(bb=decide (st=2))∧a=mk 53 (([(1,pV d),(3,pV rb)]:Fr)++lr)∧sat g w [Cl rb [sV wd,iV hi,.bool bb] 540,Cl d [iV x,iV y,uV z,iV st,iV why,iV tr,iV nx,sV L] 226,R]) ?_ ?_
  ·
   refine g0<|dw (AE [1,2] (Tr.an2 0 (Tr.fl 3 (Tr.an 4 (Tr.an 5 Tr.nil))) 4 (Tr.an 0 (Tr.fl 3 (Tr.an 5 Tr.nil))))) o fun _ D=>go [rd 3 2 0 3 1 D] ?_
   refine IN ?_ ?_
   ·
    refine CJ call431 MS D fun _ p=>⟨kd [rd 0 2 0 3 1 p],?_⟩
    by_cases be:st=1
    ·
     refine lw (.agg #[sV [108,105,118,101],iV 0,bF]) (fun _=>B4 (t:=541) (x:=Ot 19) (y:=Ot 21) (z:=st) (cs:= #[sV [],iV 0,bF,sV [108,105,118,101],iV 0,bF,sV [99,108,111,115,105,110,103],iV 3,bT,sV [114,101,108,101,97,115,101,100],iV 3,bF,sV [113,117,97,114,97,110,116,105,110,101],iV 3,bF]) kr underlying541 underlying540 3 kr kr kr 1 om dc (by rfl) _)<|nG (fun q_=>pV q_) 540 [sV [],iV 0,bF] p (fun G _ H=>⟨kd [rd 0 2 1 3 1 H],?_⟩)
     refine sB [sV [108,105,118,101],iV 0,bF] H fun _ Y=>⟨kd [],?_⟩
     refine g0 ?_
     refine ET ?_
     exact⟨G,0,false,[108,105,118,101],_,om,(by rw[decide_eq_false om]),(Ck [.k 1 (pV d),.k 3 (pV G)]),Y⟩
    by_cases bf:st=2
    ·
     refine lw (.agg #[sV [99,108,111,115,105,110,103],iV 3,bT]) (fun _=>B4 (t:=541) (x:=Ot 19) (y:=Ot 21) (z:=st) (cs:= #[sV [],iV 0,bF,sV [108,105,118,101],iV 0,bF,sV [99,108,111,115,105,110,103],iV 3,bT,sV [114,101,108,101,97,115,101,100],iV 3,bF,sV [113,117,97,114,97,110,116,105,110,101],iV 3,bF]) kr underlying541 underlying540 3 kr kr kr 2 om dc (by rfl) _)<|nG (fun q_=>pV q_) 540 [sV [],iV 0,bF] p (fun I _ J=>⟨kd [rd 0 2 1 3 1 J],?_⟩)
     refine sB [sV [99,108,111,115,105,110,103],iV 3,bT] J fun _ Z=>⟨kd [],?_⟩
     refine g0 ?_
     refine ET ?_
     exact⟨I,3,true,[99,108,111,115,105,110,103],_,om,(by rw[decide_eq_true om]),(Ck [.k 1 (pV d),.k 3 (pV I)]),Z⟩
    by_cases bg:st=3
    ·
     refine lw (.agg #[sV [114,101,108,101,97,115,101,100],iV 3,bF]) (fun _=>B4 (t:=541) (x:=Ot 19) (y:=Ot 21) (z:=st) (cs:= #[sV [],iV 0,bF,sV [108,105,118,101],iV 0,bF,sV [99,108,111,115,105,110,103],iV 3,bT,sV [114,101,108,101,97,115,101,100],iV 3,bF,sV [113,117,97,114,97,110,116,105,110,101],iV 3,bF]) kr underlying541 underlying540 3 kr kr kr 3 om dc (by rfl) _)<|nG (fun q_=>pV q_) 540 [sV [],iV 0,bF] p (fun M _ N=>⟨kd [rd 0 2 1 3 1 N],?_⟩)
     refine sB [sV [114,101,108,101,97,115,101,100],iV 3,bF] N fun _ aa=>⟨kd [],?_⟩
     refine g0 ?_
     refine ET ?_
     exact⟨M,3,false,[114,101,108,101,97,115,101,100],_,om,(by rw[decide_eq_false om]),(Ck [.k 1 (pV d),.k 3 (pV M)]),aa⟩
    refine lw (.agg #[sV [113,117,97,114,97,110,116,105,110,101],iV 3,bF]) (fun _=>B4 (t:=541) (x:=Ot 19) (y:=Ot 21) (z:=st) (cs:= #[sV [],iV 0,bF,sV [108,105,118,101],iV 0,bF,sV [99,108,111,115,105,110,103],iV 3,bT,sV [114,101,108,101,97,115,101,100],iV 3,bF,sV [113,117,97,114,97,110,116,105,110,101],iV 3,bF]) kr underlying541 underlying540 3 kr kr kr 4 om dc (by rfl) _)<|nG (fun q_=>pV q_) 540 [sV [],iV 0,bF] p (fun O _ P=>⟨kd [rd 0 2 1 3 1 P],?_⟩)
    refine sB [sV [113,117,97,114,97,110,116,105,110,101],iV 3,bF] P fun _ ab=>⟨kd [],?_⟩
    refine g0 ?_
    refine ET ?_
    exact⟨O,3,false,[113,117,97,114,97,110,116,105,110,101],_,om,(by rw[decide_eq_false om]),(Ck [.k 1 (pV d),.k 3 (pV O)]),ab⟩
   refine nG (fun q_=>pV q_) 540 [sV [],iV 0,bF] D (fun e _ Q=>⟨kd [rd 0 2 1 3 1 Q],?_⟩)
   refine CJ call431 MS Q fun _ q=>⟨kd [rd 0 2 1 3 1 q],?_⟩
   by_cases bh:st=1
   ·
    refine lw (.agg #[sV [108,105,118,101],iV 0,bF]) (fun _=>B4 (t:=541) (x:=Ot 19) (y:=Ot 21) (z:=st) (cs:= #[sV [],iV 0,bF,sV [108,105,118,101],iV 0,bF,sV [99,108,111,115,105,110,103],iV 3,bT,sV [114,101,108,101,97,115,101,100],iV 3,bF,sV [113,117,97,114,97,110,116,105,110,101],iV 3,bF]) kr underlying541 underlying540 3 kr kr kr 1 om dc (by rfl) _)<|sB [sV [108,105,118,101],iV 0,bF] q fun _ ac=>⟨kd [],?_⟩
    refine g0 ?_
    refine ET ?_
    exact⟨e,0,false,[108,105,118,101],_,om,(by rw[decide_eq_false om]),(Ck [.k 1 (pV d),.k 3 (pV e)]),ac⟩
   by_cases bi:st=2
   ·
    refine lw (.agg #[sV [99,108,111,115,105,110,103],iV 3,bT]) (fun _=>B4 (t:=541) (x:=Ot 19) (y:=Ot 21) (z:=st) (cs:= #[sV [],iV 0,bF,sV [108,105,118,101],iV 0,bF,sV [99,108,111,115,105,110,103],iV 3,bT,sV [114,101,108,101,97,115,101,100],iV 3,bF,sV [113,117,97,114,97,110,116,105,110,101],iV 3,bF]) kr underlying541 underlying540 3 kr kr kr 2 om dc (by rfl) _)<|sB [sV [99,108,111,115,105,110,103],iV 3,bT] q fun _ ad=>⟨kd [],?_⟩
    refine g0 ?_
    refine ET ?_
    exact⟨e,3,true,[99,108,111,115,105,110,103],_,om,(by rw[decide_eq_true om]),(Ck [.k 1 (pV d),.k 3 (pV e)]),ad⟩
   by_cases bj:st=3
   ·
    refine lw (.agg #[sV [114,101,108,101,97,115,101,100],iV 3,bF]) (fun _=>B4 (t:=541) (x:=Ot 19) (y:=Ot 21) (z:=st) (cs:= #[sV [],iV 0,bF,sV [108,105,118,101],iV 0,bF,sV [99,108,111,115,105,110,103],iV 3,bT,sV [114,101,108,101,97,115,101,100],iV 3,bF,sV [113,117,97,114,97,110,116,105,110,101],iV 3,bF]) kr underlying541 underlying540 3 kr kr kr 3 om dc (by rfl) _)<|sB [sV [114,101,108,101,97,115,101,100],iV 3,bF] q fun _ ae=>⟨kd [],?_⟩
    refine g0 ?_
    refine ET ?_
    exact⟨e,3,false,[114,101,108,101,97,115,101,100],_,om,(by rw[decide_eq_false om]),(Ck [.k 1 (pV d),.k 3 (pV e)]),ae⟩
   refine lw (.agg #[sV [113,117,97,114,97,110,116,105,110,101],iV 3,bF]) (fun _=>B4 (t:=541) (x:=Ot 19) (y:=Ot 21) (z:=st) (cs:= #[sV [],iV 0,bF,sV [108,105,118,101],iV 0,bF,sV [99,108,111,115,105,110,103],iV 3,bT,sV [114,101,108,101,97,115,101,100],iV 3,bF,sV [113,117,97,114,97,110,116,105,110,101],iV 3,bF]) kr underlying541 underlying540 3 kr kr kr 4 om dc (by rfl) _)<|sB [sV [113,117,97,114,97,110,116,105,110,101],iV 3,bF] q fun _ af=>⟨kd [],?_⟩
   refine g0 ?_
   refine ET ?_
   exact⟨e,3,false,[113,117,97,114,97,110,116,105,110,101],_,om,(by rw[decide_eq_false om]),(Ck [.k 1 (pV d),.k 3 (pV e)]),af⟩
  rintro bk bl ⟨rb,hi,bb,wd,bm,hlh_,hg_,rfl,c⟩
  refine ga<|go [rd 4 1 0 1 1 c,.s 4 2] ?_
  by_cases bn:1<hi
  ·
   refine go [.v 4 2 (⟨iV (if 1<hi then 1 else hi),iV 1,(BE (if_pos om))⟩),rd 5 1 1 4 1 c,rd 5 4 0 1 1 c] ?_
   by_cases bo:1≤why;rotate_left
   ·
    refine AP call387 (LO why 1 hi om) c fun _ ag=>g0 ?_
    exact en (bF) [] ⟨_,_,rfl,⟨by rw[decide_eq_false (by unfold CH;omega)],rfl⟩,ag.b.t1⟩
   by_cases bp:why≤hi;rotate_left
   ·
    refine AP call387 (LO why 1 hi om) c fun _ ah=>g0 ?_
    exact en (bF) [] ⟨_,_,rfl,⟨by rw[decide_eq_false (by unfold CH;omega)],rfl⟩,ah.b.t1⟩
   refine AP call387 (Na why 1 hi om) c fun _ u=>go [rd 5 8 1 5 1 u] ?_
   by_cases bq:0≤tr;rotate_left
   ·
    refine AP call387 (LO tr 0 10000 om) u fun _ ai=>g0 ?_
    exact en (bF) [] ⟨_,_,rfl,⟨by rw[decide_eq_false (by unfold CH;omega)],rfl⟩,ai.b.t1⟩
   by_cases br:tr≤10000;rotate_left
   ·
    refine AP call387 (LO tr 0 10000 om) u fun _ aj=>g0 ?_
    exact en (bF) [] ⟨_,_,rfl,⟨by rw[decide_eq_false (by unfold CH;omega)],rfl⟩,aj.b.t1⟩
   refine AP call387 (Na tr 0 10000 om) u fun _ A=>go [rd 5 15 1 6 1 A] ?_
   by_cases bs:0≤nx;rotate_left
   ·
    refine AP call388 (Nb nx om) A fun _ ak=>g0 ?_
    exact en (bF) [] ⟨_,_,rfl,⟨by rw[decide_eq_false (by unfold CH;omega)],rfl⟩,ak.b.t1⟩
   by_cases bt:nx≤1099511627776
   ·
    refine AP call388 (HA nx om) A fun _ i=>go [.s 5 20] ?_
    rcases Bool.eq_false_or_eq_true bb with j|j
    ·
     refine go [(rd 5 20 0 2 1 i).b (⟨.bool bb,bT,(Rj j)⟩)] ?_
     have hbb_:=of_decide_eq_true (hg_.symm.trans j)
     exact en (bT) [] ⟨_,_,rfl,⟨by rw[decide_eq_true (by unfold CH;omega)],rfl⟩,i.b.t1⟩
    refine go [(rd 5 20 0 2 1 i).b (⟨.bool bb,bF,(Rj j)⟩),rd 5 23 1 6 1 i,.s 5 24] ?_
    by_cases S:nx=0
    ·
     refine go [.v 5 24 (G9 _ _ S)] ?_
     have hbb_:=of_decide_eq_false (hg_.symm.trans j)
     exact en (bT) [] ⟨_,_,rfl,⟨by rw[decide_eq_true (by unfold CH;omega)],rfl⟩,i.b.t1⟩
    refine go [.v 5 24 (DR _ _ S)] ?_
    have hbb_:=of_decide_eq_false (hg_.symm.trans j)
    exact en (bF) [] ⟨_,_,rfl,⟨by rw[decide_eq_false (by unfold CH;omega)],rfl⟩,i.b.t1⟩
   refine AP call388 (Nb nx om) A fun _ al=>g0 ?_
   exact en (bF) [] ⟨_,_,rfl,⟨by rw[decide_eq_false (by unfold CH;omega)],rfl⟩,al.b.t1⟩
  refine go [.v 4 2 (⟨iV (if 1<hi then 1 else hi),iV hi,(BE (if_neg om))⟩),rd 5 1 1 4 1 c,rd 5 4 0 1 1 c] ?_
  by_cases bu:hi≤why;rotate_left
  ·
   refine AP call387 (LO why hi hi om) c fun _ am=>g0 ?_
   exact en (bF) [] ⟨_,_,rfl,⟨by rw[decide_eq_false (by unfold CH;omega)],rfl⟩,am.b.t1⟩
  by_cases bv:why≤hi;rotate_left
  ·
   refine AP call387 (LO why hi hi om) c fun _ ao=>g0 ?_
   exact en (bF) [] ⟨_,_,rfl,⟨by rw[decide_eq_false (by unfold CH;omega)],rfl⟩,ao.b.t1⟩
  refine AP call387 (Na why hi hi om) c fun _ B=>go [rd 5 8 1 5 1 B,.v 5 10 (CD (10000*hi))] ?_
  by_cases bw:0≤tr;rotate_left
  ·
   refine AP call387 (LO tr 0 (10000*hi) om) B fun _ ap=>g0 ?_
   exact en (bF) [] ⟨_,_,rfl,⟨by rw[decide_eq_false (by unfold CH;omega)],rfl⟩,ap.b.t1⟩
  by_cases bx:tr≤10000*hi;rotate_left
  ·
   refine AP call387 (LO tr 0 (10000*hi) om) B fun _ aq=>g0 ?_
   exact en (bF) [] ⟨_,_,rfl,⟨by rw[decide_eq_false (by unfold CH;omega)],rfl⟩,aq.b.t1⟩
  refine AP call387 (Na tr 0 (10000*hi) om) B fun _ C=>go [rd 5 15 1 6 1 C] ?_
  by_cases bz:0≤nx;rotate_left
  ·
   refine AP call388 (Nb nx om) C fun _ ar=>g0 ?_
   exact en (bF) [] ⟨_,_,rfl,⟨by rw[decide_eq_false (by unfold CH;omega)],rfl⟩,ar.b.t1⟩
  by_cases ca:nx≤1099511627776
  ·
   refine AP call388 (HA nx om) C fun _ l=>go [.s 5 20] ?_
   rcases Bool.eq_false_or_eq_true bb with m|m
   ·
    refine go [(rd 5 20 0 2 1 l).b (⟨.bool bb,bT,(Rj m)⟩)] ?_
    have hbb_:=of_decide_eq_true (hg_.symm.trans m)
    exact en (bT) [] ⟨_,_,rfl,⟨by rw[decide_eq_true (by unfold CH;omega)],rfl⟩,l.b.t1⟩
   refine go [(rd 5 20 0 2 1 l).b (⟨.bool bb,bF,(Rj m)⟩),rd 5 23 1 6 1 l,.s 5 24] ?_
   by_cases T:nx=0
   ·
    refine go [.v 5 24 (G9 _ _ T)] ?_
    have hbb_:=of_decide_eq_false (hg_.symm.trans m)
    exact en (bT) [] ⟨_,_,rfl,⟨by rw[decide_eq_true (by unfold CH;omega)],rfl⟩,l.b.t1⟩
   refine go [.v 5 24 (DR _ _ T)] ?_
   have hbb_:=of_decide_eq_false (hg_.symm.trans m)
   exact en (bF) [] ⟨_,_,rfl,⟨by rw[decide_eq_false (by unfold CH;omega)],rfl⟩,l.b.t1⟩
  refine AP call388 (Nb nx om) C fun _ au=>g0 ?_
  exact en (bF) [] ⟨_,_,rfl,⟨by rw[decide_eq_false (by unfold CH;omega)],rfl⟩,au.b.t1⟩
 refine AP call273 (Ao x y z om om om) f fun _ av=>g0 ?_
 exact en (bF) [] ⟨_,_,rfl,⟨by rw[decide_eq_false (by unfold CH;omega)],rfl⟩,av.a.t1⟩
theorem DW(x y z st why tr nx:Int)(L:List UInt8)(i:0≤z)(j:z≤4294967295)(hm:L.length≤1099511627776):HQ 352 [.agg #[iV x,iV y,uV z,iV st,iV why,iV tr,iV nx,sV L]] [] (iV (DH x y z st why tr nx L)) []:=by
 refine AC func352 ntmps352 fun g w0 R h0=>g0<|nP 226 [iV x,iV y,uV z,iV st,iV why,iV tr,iV nx,sV L] h0 (fun _ _ c=> ?_)
 refine go [rd 1 0 0 0 8 c] ?_
 rcases Bool.eq_false_or_eq_true (decide (CH x y z st why tr nx)) with b|b
 ·
  refine AP call401 (by have h_:=Tx x y z st why tr nx L om om;rw[b] at h_;exact h_) c fun _ d=> ?_
  refine go [rd 3 1 0 7 1 d]<|AP call131 (Xw L om) d fun _ e=>g0 ?_
  exact en (iV (Ag L)) [] ⟨_,_,rfl,⟨by unfold DH;rw[if_pos (of_decide_eq_true b)],rfl⟩,e.a.t1⟩
 refine AP call401 (by have h_:=Tx x y z st why tr nx L om om;rw[b] at h_;exact h_) c fun _ f=> ?_
 refine g0 ?_
 exact en (iV 2) [] ⟨_,_,rfl,⟨by unfold DH;rw[if_neg (of_decide_eq_false b)],rfl⟩,f.a.t1⟩
theorem Hm(x y z:Int)(L:List UInt8)(l:0≤z)(m:z≤4294967295)(hm:L.length≤1099511627776)(ho:1≤x∧x≤3∧0≤y∧y≤63∧1≤z)(ht:Ag L=0):HQ 274 [.agg #[iV x,iV y,uV z],sV L] [] (.tuple #[.agg #[iV x,iV y,uV z,iV 1,iV 0,iV 0,iV 0,sV L],iV 0]) []:=by
 refine AC func274 ntmps274 fun g w0 R h0=>g0<|nP 48 [iV x,iV y,uV z] h0 (fun _ _ i=> ?_)
 refine nP 226 [iV 0,iV 0,uV 0,iV 0,iV 0,iV 0,iV 0,sV []] i (fun _ _ b=> ?_)
 refine go [rd 1 0 1 0 3 b]<|nP 226 [iV 0,iV 0,uV 0,iV 0,iV 0,iV 0,iV 0,sV []] b (fun _ _ j=> ?_)
 refine sA [iV x,iV y,uV z,iV 1,iV 0,iV 0,iV 0,sV L] j fun _ d=>go [rd 2 0 0 0 8 d]<|AP call352 (by have h_:=DW x y z 1 0 0 0 L om om om;rw[show DH x y z 1 0 0 0 L=0 from (if_pos (by unfold CH;omega)).trans (show Ag L=0 from by omega)] at h_;exact h_) d fun _ e=> ?_
 have k:=e.a.t4
 refine go [rd 5 0 0 0 8 e]<|sA [iV x,iV y,uV z,iV 1,iV 0,iV 0,iV 0,sV L] k fun _ f=>g0 ?_
 exact AD _ [rd 0 0 0 0 8 f] f.c.t1
theorem Xx(x y z:Int)(L:List UInt8)(m:0≤z)(o:z≤4294967295)(hm:L.length≤1099511627776)(ho:1≤x∧x≤3∧0≤y∧y≤63∧1≤z)(ht: ¬Ag L=0):HQ 274 [.agg #[iV x,iV y,uV z],sV L] [] (.tuple #[.agg #[iV 0,iV 0,uV 0,iV 0,iV 0,iV 0,iV 0,sV []],iV 16]) []:=by
 refine AC func274 ntmps274 fun g w0 R h0=>g0<|nP 48 [iV x,iV y,uV z] h0 (fun _ _ i=> ?_)
 refine nP 226 [iV 0,iV 0,uV 0,iV 0,iV 0,iV 0,iV 0,sV []] i (fun _ _ d=> ?_)
 refine go [rd 1 0 1 0 3 d]<|nP 226 [iV 0,iV 0,uV 0,iV 0,iV 0,iV 0,iV 0,sV []] d (fun _ _ j=> ?_)
 refine sA [iV x,iV y,uV z,iV 1,iV 0,iV 0,iV 0,sV L] j fun _ e=>go [rd 2 0 0 0 8 e]<|AP call352 (by have h_:=DW x y z 1 0 0 0 L om om om;rw[show DH x y z 1 0 0 0 L=16 from (if_pos (by unfold CH;omega)).trans (show Ag L=16 from by have b:=Tu L;omega)] at h_;exact h_) e fun _ k=> ?_
 have l:=k.a.t4
 refine g0<|sA [iV 0,iV 0,uV 0,iV 0,iV 0,iV 0,iV 0,sV []] l fun _ f=>g0 ?_
 exact AD _ [rd 0 0 0 0 8 f] f.c.t1
theorem dM(x y z:Int)(L:List UInt8)(l:0≤z)(m:z≤4294967295)(hm:L.length≤1099511627776)(ho: ¬(1≤x∧x≤3∧0≤y∧y≤63∧1≤z)):HQ 274 [.agg #[iV x,iV y,uV z],sV L] [] (.tuple #[.agg #[iV 0,iV 0,uV 0,iV 0,iV 0,iV 0,iV 0,sV []],iV 2]) []:=by
 refine AC func274 ntmps274 fun g w0 R h0=>g0<|nP 48 [iV x,iV y,uV z] h0 (fun _ _ f=> ?_)
 refine nP 226 [iV 0,iV 0,uV 0,iV 0,iV 0,iV 0,iV 0,sV []] f (fun _ _ b=> ?_)
 refine go [rd 1 0 1 0 3 b]<|nP 226 [iV 0,iV 0,uV 0,iV 0,iV 0,iV 0,iV 0,sV []] b (fun _ _ i=> ?_)
 refine sA [iV x,iV y,uV z,iV 1,iV 0,iV 0,iV 0,sV L] i fun _ d=>go [rd 2 0 0 0 8 d]<|AP call352 (by have h_:=DW x y z 1 0 0 0 L om om om;rw[show DH x y z 1 0 0 0 L=2 from if_neg (by unfold CH;omega)] at h_;exact h_) d fun _ j=> ?_
 have k:=j.a.t4
 refine g0<|sA [iV 0,iV 0,uV 0,iV 0,iV 0,iV 0,iV 0,sV []] k fun _ e=>g0 ?_
 exact AD _ [rd 0 0 0 0 8 e] e.c.t1
structure Ety where
 d:Ky
 num:Int
 h:Int×Int
def vE(e:Ety):Value:= .agg #[iV e.d.1,iV e.d.2.1,uV e.d.2.2,iV e.num,iV e.h.1,uV e.h.2]
abbrev Tm:=List (Int×Ety)
def KN(E:Tm):Prop:=(E.map (·.1)).Nodup
def RX(E0 E:Tm):Prop:=KN E0∧KN E∧ ∀k:Int,Aa E0 k=Aa E k
theorem gget_none{E:Tm}{k:Int}:Aa E k=none↔k∉E.map (·.1):=by
 induction E with
 |nil=>simp[Aa]
 |cons q E ih=>
  obtain⟨a,v⟩:=q
  simp only[Aa,List.map_cons,List.mem_cons,not_or]
  split
  · rename_i h
    subst h
    simp
  · rename_i h
    rw[ih]
    exact⟨fun b=>⟨h,b⟩,fun b=>b.2⟩
theorem Xy(E:Tm)(k:Int)(v:Ety): ∀a,a∈(Au E k v).map (·.1)↔a=k∨a∈E.map (·.1):=by
 induction E with
 |nil=>intro a;simp[Au]
 |cons q E ih=>
  intro a
  obtain⟨b,u⟩:=q
  simp only[Au]
  split
  · rename_i h
    subst h
    simp only[List.map_cons,List.mem_cons]
    constructor
    · rintro(h|h)
      · exact .inl h
      · exact .inr (.inr h)
    · rintro(h|h|h)
      · exact .inl h
      · exact .inl h
      · exact .inr h
  · simp only[List.map_cons,List.mem_cons,ih a]
    constructor
    · rintro(h|h|h)
      · exact .inr (.inl h)
      · exact .inl h
      · exact .inr (.inr h)
    · rintro(h|h|h)
      · exact .inr (.inl h)
      · exact .inl h
      · exact .inr (.inr h)
theorem Nc{E:Tm}{k:Int}{v:Ety}(h:KN E):KN (Au E k v):=by
 induction E with
 |nil=>exact List.nodup_cons.2 ⟨by simp,List.nodup_nil⟩
 |cons q E ih=>
  obtain⟨b,u⟩:=q
  have h':(b::E.map (·.1)).Nodup:=h
  obtain⟨h1,h2⟩:=List.nodup_cons.1 h'
  unfold KN
  simp only[Au]
  split
  · exact h
  · rename_i hk
    refine List.nodup_cons.2 ⟨fun hm=> ?_,ih h2⟩
    rcases(Xy E k v b).1 hm with a|a
    · exact hk a.symm
    · exact h1 a
theorem dN(E:Tm)(k:Int):((C0 E k).map (·.1)).Sublist (E.map (·.1)):=by
 induction E with
 |nil=>exact List.Sublist.refl _
 |cons q E ih=>
  obtain⟨b,u⟩:=q
  simp only[C0]
  split
  · exact List.sublist_cons_self _ _
  · exact List.Sublist.cons_cons _ ih
theorem R3{E:Tm}{k:Int}(h:KN E):KN (C0 E k):=List.Nodup.sublist (dN E k) h
theorem DA{E:Tm}{k:Int}(h:KN E):Aa (C0 E k) k=none:=by
 induction E with
 |nil=>rfl
 |cons q E ih=>
  obtain⟨b,u⟩:=q
  have h':(b::E.map (·.1)).Nodup:=h
  obtain⟨h1,h2⟩:=List.nodup_cons.1 h'
  simp only[C0]
  split
  · rename_i hk
    subst hk
    exact gget_none.2 h1
  · rename_i hk
    simp only[Aa]
    rw[if_neg hk]
    exact ih h2
theorem Xz{E:Tm}(h:KN E):RX E E:=⟨h,h,fun _=>rfl⟩
theorem dO{E0 E:Tm}(h:RX E0 E)(k:Int)(v:Ety):RX (Au E0 k v) (Au E k v):=⟨Nc h.1,Nc h.2.1,fun a=>by rw[E7,E7,h.2.2]⟩
theorem dP{E0 E:Tm}(h:RX E0 E)(k:Int):RX (C0 E0 k) (C0 E k):=⟨R3 h.1,R3 h.2.1,fun a=>by
 by_cases ha:a=k
 · subst ha
   rw[DA h.1,DA h.2.1]
 · rw[E8 ha,E8 ha,h.2.2]⟩
def Bp(E:Tm)(k:Nat):List Ety:=(List.range k).filterMap fun j:Nat=>Aa E (j:Int)
def Ac(E:Tm):List Ety:=Bp E 256
theorem KI{E:Tm}{k:Nat}{e:Ety}(h:Aa E (k:Int)=some e):Bp E (k+1)=Bp E k++ [e]:=by
 unfold Bp
 rw[List.range_succ,List.filterMap_append]
 simp[h]
theorem Pi{E:Tm}{k:Nat}(h:Aa E (k:Int)=none):Bp E (k+1)=Bp E k:=by
 unfold Bp
 rw[List.range_succ,List.filterMap_append]
 simp[h]
theorem VW{E:Tm}{k m:Nat}(h:k≤m): ∃T,Bp E m=Bp E k++T:=by
 obtain⟨d,rfl⟩: ∃d,m=k+d:=⟨m-k,by omega⟩
 induction d with
 |zero=>exact⟨[],by simp⟩
 |succ d ih=>
  obtain⟨T,hT⟩:=ih om
  cases hg:Aa E ((k+d:Nat):Int) with
  |none=>exact⟨T,by rw[←Nat.add_assoc,Pi hg,hT]⟩
  |some e=>exact⟨T++ [e],by rw[←Nat.add_assoc,KI hg,hT,List.append_assoc]⟩
theorem Ji{E:Tm}{k:Nat}{e:Ety}(h:Aa E (k:Int)=some e)(hk:k<256):(Ac E)[(Bp E k).length]? =some e:=by
 obtain⟨T,hT⟩:=VW (E:=E) (k:=k+1) (m:=256) hk
 unfold Ac
 rw[hT,KI h,List.append_assoc,List.getElem?_append_right (Nat.le_refl _),Nat.sub_self]
 rfl
theorem Ty{E:Tm}{k:Nat}{e:Ety}(h:Aa E (k:Int)=some e):(Bp E (k+1)).length=(Bp E k).length+1:=by rw[KI h,List.length_append];rfl
theorem Tz{E:Tm}{k:Nat}(h:Aa E (k:Int)=none):(Bp E (k+1)).length=(Bp E k).length:=by rw[Pi h]
theorem T0(E:Tm): ∀k,(Bp E k).length≤k
 |0=>Nat.le_refl _
 |k+1=>by
  have:=T0 E k
  cases hg:Aa E (k:Int) with
  |none=>rw[Tz hg];omega
  |some e=>rw[Ty hg];omega
def B7:Ety:=⟨(0,0,0),0,(0,0)⟩
theorem X0{α:Type}{L:List α}{i:Nat}{d:α}(h:i<L.length):L.getD i d∈L:=by
 rw[getD_some (List.getElem?_eq_getElem h)]
 exact List.getElem_mem h
theorem X1{α:Type}{L:List α}{d:α}{P:α→Prop}(h: ∀j:Nat,j<L.length→P (L.getD j d)): ∀e∈L,P e:=fun e he=>by
 obtain⟨j,hj⟩:=List.getElem?_of_mem he
 have:=h j (List.getElem?_eq_some_iff.1 hj).1
 rw[getD_some hj] at this
 exact this
theorem T1{P:Nat→Prop}{i:Nat}(h: ∀j:Nat,j<i→P j)(hi:P i): ∀j:Nat,j<i+1→P j:=fun j hj=>by
 rcases Nat.lt_succ_iff_lt_or_eq.1 hj with h1|rfl
 · exact h j h1
 · exact hi
theorem T2{p:Int×Int}{a b:Int}(h: ¬(p.1=a∧p.2=b)):p≠(a,b):=by
 rintro rfl
 exact h ⟨rfl,rfl⟩
def Df(E:Tm)(v:Int)(i:Nat):List Ky:=((Ac E).take i).filterMap fun e=>if e.num=v then some e.d else none
def Ch(E:Tm)(v:Int):List Ky:=(Ac E).filterMap fun e=>if e.num=v then some e.d else none
theorem VX(E:Tm)(v:Int):Df E v (Ac E).length=Ch E v:=by unfold Df Ch;rw[List.take_length]
theorem X2{E:Tm}{v:Int}{i:Nat}(hi:i<(Ac E).length)(h:((Ac E).getD i B7).num=v):Df E v i++ [((Ac E).getD i B7).d]=Df E v (i+1):=by
 unfold Df
 rw[←Ie (d:=B7) hi,List.filterMap_append]
 simp only[List.filterMap_cons,List.filterMap_nil,if_pos h]
theorem X3{E:Tm}{v:Int}{i:Nat}(hi:i<(Ac E).length)(h:((Ac E).getD i B7).num≠v):Df E v i=Df E v (i+1):=by
 unfold Df
 rw[←Ie (d:=B7) hi,List.filterMap_append]
 simp only[List.filterMap_cons,List.filterMap_nil,if_neg h,List.append_nil]
section
def BD(b n:Nat)(A:List AM)(E:Tm)(R:List Rs):AB:=fun h=> ∃x:Nat×Nat×Option Addr×Nat×Tm,(RX x.2.2.2.2 E∧R.length≤2000)∧
 Aj [Cl b [.pointer (some ⟨x.1,0,none⟩),.map (some x.2.1),.slice x.2.2.1 R.length x.2.2.2.1] 177,Tb x.1 n A,Gp kI vE x.2.1 x.2.2.2.2,Sl 226 8 x.2.2.1 R.length x.2.2.2.1 (fl DG R)] h
section
variable {g w : World} {L : List AB} {b n : Nat} {A : List AM} {E : Tm} {R : List Rs}
theorem Ay(h:sat g w (BD b n A E R::L)): ∃s m p c E0,(RX E0 E∧R.length≤2000)∧sat g w (Cl b [pV s,.map (some m),.slice p R.length c] 177::Tb s n A::Gp kI vE m E0::Sl 226 8 p R.length c (fl DG R)::L):=by
 obtain⟨⟨s,m,p,c,E0⟩,h1,h2⟩:=Af (X:=Nat×Nat×Option Addr×Nat×Tm) (p:=fun x=>RX x.2.2.2.2 E∧R.length≤2000) (B:=fun x=>Aj [Cl b [.pointer (some ⟨x.1,0,none⟩),.map (some x.2.1),.slice x.2.2.1 R.length x.2.2.2.1] 177,Tb x.1 n A,Gp kI vE x.2.1 x.2.2.2.2,Sl 226 8 x.2.2.1 R.length x.2.2.2.1 (fl DG R)]) h (fun k hk=>hk)
 exact⟨s,m,p,c,E0,h1,AK h2⟩
theorem AV{s m c k:Nat}{p:Option Addr}{E0:Tm}(h1:RX E0 E)(h2:R.length≤2000)(hk:k=R.length)(h:sat g w (Cl b [pV s,.map (some m),.slice p k c] 177::Tb s n A::Gp kI vE m E0::Sl 226 8 p k c (fl DG R)::L)):sat g w (BD b n A E R::L):=by
 subst hk
 exact AI (AO (K:= [Cl b [pV s,.map (some m),.slice p R.length c] 177,Tb s n A,Gp kI vE m E0,Sl 226 8 p R.length c (fl DG R)]) h) fun k hk=>⟨(s,m,p,c,E0),⟨h1,h2⟩,hk⟩
end
def VY(b n:Nat)(A:List AM)(E:Tm)(R:List Rs)(p:Option Addr)(k c:Nat):AB:=fun h=> ∃x:Nat×Nat×Tm,(RX x.2.2 E∧R.length≤2000)∧
 Aj [Cl b [.pointer (some ⟨x.1,0,none⟩),.map (some x.2.1),.slice p k c] 177,Tb x.1 n A,Gp kI vE x.2.1 x.2.2,Sl 226 8 p k c (fl DG R)] h
section
variable {g w : World} {L : List AB} {b n k : Nat} {A : List AM} {E : Tm} {R : List Rs} {p : Option Addr} {c : Nat}
theorem MT(h:sat g w (VY b n A E R p k c::L)): ∃s m E0,(RX E0 E∧R.length≤2000)∧sat g w (Cl b [pV s,.map (some m),.slice p k c] 177::Tb s n A::Gp kI vE m E0::Sl 226 8 p k c (fl DG R)::L):=by
 obtain⟨⟨s,m,E0⟩,h1,h2⟩:=Af (X:=Nat×Nat×Tm) (p:=fun x=>RX x.2.2 E∧R.length≤2000) (B:=fun x=>Aj [Cl b [.pointer (some ⟨x.1,0,none⟩),.map (some x.2.1),.slice p k c] 177,Tb x.1 n A,Gp kI vE x.2.1 x.2.2,Sl 226 8 p k c (fl DG R)]) h (fun k hk=>hk)
 exact⟨s,m,E0,h1,AK h2⟩
theorem KJ{s m:Nat}{E0:Tm}(h1:RX E0 E)(h2:R.length≤2000)(h:sat g w (Cl b [pV s,.map (some m),.slice p k c] 177::Tb s n A::Gp kI vE m E0::Sl 226 8 p k c (fl DG R)::L)):sat g w (VY b n A E R p k c::L):=
 AI (AO (K:= [Cl b [pV s,.map (some m),.slice p k c] 177,Tb s n A,Gp kI vE m E0,Sl 226 8 p k c (fl DG R)]) h) fun k hk=>⟨(s,m,E0),⟨h1,h2⟩,hk⟩
end
theorem Dc:KyOk prog 3 kI:=tL underlying3
theorem BF(b n:Nat)(A:List AM)(E:Tm)(RL:List Rs):HQ 119 [pV b] [BD b n A E RL] (bT) [BD b n A E RL]:=by
 refine AC func119 ntmps119 fun g w0 R h0=> ?_
 obtain⟨d,e,f,i,E14,hM15,a⟩:=Ay h0
 have hRl_:=hM15.2
 refine go [rd 1 6 0 1 1 a] ?_
 have c:sat g _ (BD b n A E RL::_):=AV hM15.1 om (by first|rfl |omega) a
 exact AD _ [] c
theorem T3(i gn:Int)(h:0≤i∧i≤255∧1≤gn):HQ 275 [.agg #[iV i,uV gn]] [] (bT) []:=by
 refine AC func275 ntmps275 fun g w0 R h0=>g0<|nP 203 [iV i,uV gn] h0 (fun _ _ b=> ?_)
 refine go [rd 1 1 0 0 1 b,.v 1 2 (oT (i≥0)),rd 1 5 0 0 1 b,.v 1 6 (oT (i<256)),rd 1 10 0 1 1 b,.v 1 11 (oT (gn>0))] ?_
 exact AD _ [] b.a.t1
theorem X4(i gn:Int)(h:i<0∨255<i∨gn≤0):HQ 275 [.agg #[iV i,uV gn]] [] (bF) []:=by
 refine AC func275 ntmps275 fun g w0 R h0=>g0<|nP 203 [iV i,uV gn] h0 (fun _ _ b=> ?_)
 refine go [rd 1 1 0 0 1 b,.s 1 2] ?_
 by_cases c:i≥0
 ·
  refine go [.v 1 2 (oT _ c),rd 1 5 0 0 1 b,.s 1 6] ?_
  by_cases d:i<256
  ·
   refine go [.v 1 6 (oT _ d),rd 1 10 0 1 1 b,.v 1 11 (oF (gn>0))] ?_
   exact AD _ [] b.a.t1
  refine go [.v 1 6 (oF _ d)] ?_
  exact AD _ [] b.a.t1
 refine go [.v 1 2 (oF _ c)] ?_
 exact AD _ [] b.a.t1
theorem Pj(b:Nat):HT prog 354 [pV b] [] (fun v K=> ∃c:Nat,v= .func (Fn.func 402) #[] #[pV c]∧K= [Cl c [pV b] 80]):=by
 refine AC func354 ntmps354 fun g w0 R h0=>g0<|nP 80 [pV b] h0 (fun a _ d=> ?_)
 refine g0 ?_
 exact en _ [] ⟨_,_,rfl,⟨a,rfl,rfl⟩,d⟩
theorem T4(c b n:Nat)(A:List AM)(E:Tm)(RL:List Rs):IT prog 402 [pV c] ((Ac E).length) (fun i=> [vE ((Ac E).getD i B7)]) [Cl c [pV b] 80,BD b n A E RL]:=by
 refine mH func402 ntmps402 fun g w0 R k_ J_ E_ hY h0=> ?_
 have B:sat g _ (J_ 0::_):=h0
 refine g0 ?_
 refine Jc (fun mz_ a w=> ∃k:Nat,∃lr:Fr,mz_=256-k∧(k≤256)∧a=mk 26 (([(0,.func (Fn.yield k_) #[] #[]),(1,pV c),(6,iV k)]:Fr)++lr)∧sat g w [J_ ((Bp E k).length),Cl c [pV b] 80,BD b n A E RL,R]) (256-0) ⟨0,_,rfl,(Nat.zero_le _),(Ck [.k 0 (.func (Fn.yield k_) #[] #[]),.k 1 (pV c),.o 6 (oJ .i64 0 (0:Int))]),B⟩ ?_
 rintro X Y Z ⟨k,aa,rfl,hk,rfl,p⟩
 refine ga<|go [.s 1 0] ?_
 by_cases q:(k:Int)<256;rotate_left
 ·
  refine go [.v 1 0 (oF _ q)]<|up<|g0 ?_
  have he_:((Bp E k).length)=((Ac E).length):=(by show _=(Bp E 256).length;rw[show k=256 from by omega])
  exact en (.tuple #[]) [] ⟨⟨_,rfl⟩,.inl (he_▸p)⟩
 obtain⟨ab,ac,ad,ae,E22,hM23,l⟩:=Ay p.b.t4
 have hRl_:=hM23.2
 refine go [.v 1 0 (oT _ q),rd 3 0 1 0 1 p,rd 3 3 0 1 1 l] ?_
 rcases f:Aa E (k:Int) with _|e
 ·
  refine AH ?_
  refine AX (d:=15) (.tuple #[.agg #[iV 0,iV 0,uV 0,iV 0,iV 0,uV 0],bF]) kr rfl (BK (t:=174) (z:= .agg #[iV 0,iV 0,uV 0,iV 0,iV 0,uV 0]) (m:=Ot 13) (x:=Ot 14) (kv:=kI) (ve:=vE) kr underlying174 Dc kr (k:Int) kr kr (j:=2) l rfl (.agg #[iV 0,iV 0,uV 0,iV 0,iV 0,uV 0]) false (by rw[hM23.1.2.2 (k:Int),f];exact⟨rfl,rfl⟩)) ?_
  refine B1<|g0<|nP 228 [iV 0,iV 0,uV 0,iV 0,iV 0,uV 0] l (fun C _ D=> ?_)
  refine sA [iV 0,iV 0,uV 0,iV 0,iV 0,uV 0] D fun F G=> ?_
  have H:sat g _ (BD b n A E RL::_):=AV hM23.1 om (by first|rfl |omega) G.d.d.d.d.t8
  refine go [.s 4 99999] ?_
  refine Wy 4<|g0 ?_
  refine yN 4<|go [.v 5 0 (CD ((k:Int)+1))] ?_
  refine ET ?_
  have I:=H.b.t5
  have J:sat g F [J_ ((Bp E (k+1)).length),BD b n A E RL,Cl C [iV 0,iV 0,uV 0,iV 0,iV 0,uV 0] 228,Cl c [pV b] 80,R]:=(show ((Bp E k).length)=(Bp E (k+1)).length from (Tz f).symm)▸I
  have L:=J.d.b.d.c.t5.t4
  change ∃n',n'<_∧_
  refine⟨(256-(k+1)),by omega,(k+1),_,rfl,om,(Ck [.k 0 (.func (Fn.yield k_) #[] #[]),.k 1 (pV c),.o 6 (oJ .i64 ((k:Int)+1) (((k+1):Nat):Int))]),L⟩
 refine AH ?_
 refine AX (d:=15) (.tuple #[.agg #[iV e.d.1,iV e.d.2.1,uV e.d.2.2,iV e.num,iV e.h.1,uV e.h.2],bT]) kr rfl (BK (t:=174) (z:= .agg #[iV 0,iV 0,uV 0,iV 0,iV 0,uV 0]) (m:=Ot 13) (x:=Ot 14) (kv:=kI) (ve:=vE) kr underlying174 Dc kr (k:Int) kr kr (j:=2) l rfl (.agg #[iV e.d.1,iV e.d.2.1,uV e.d.2.2,iV e.num,iV e.h.1,uV e.h.2]) true (by rw[hM23.1.2.2 (k:Int),f];exact⟨rfl,rfl⟩)) ?_
 refine B1<|g0<|nP 228 [iV 0,iV 0,uV 0,iV 0,iV 0,uV 0] l (fun u _ M=> ?_)
 refine sA [iV e.d.1,iV e.d.2.1,uV e.d.2.2,iV e.num,iV e.h.1,uV e.h.2] M fun af N=> ?_
 have y:sat g _ (BD b n A E RL::_):=AV hM23.1 om (by first|rfl |omega) N.d.d.d.d.t8
 refine go [.s 4 99999] ?_
 refine Wy 4 ?_
 have O:=y.c.c.t5
 refine go [rd 4 3 1 0 6 y] ?_
 refine yY 4 (args:= [Value.agg #[iV e.d.1,iV e.d.2.1,uV e.d.2.2,iV e.num,iV e.h.1,uV e.h.2]]) (xa:=(fun i=> [vE ((Ac E).getD i B7)]) ((Bp E k).length)) (by show [vE ((Ac E).getD ((Bp E k).length) B7)]=_;rw[getD_some (Ji f om)];rfl) (hY ((Bp E k).length) ((List.getElem?_eq_some_iff.1 (Ji f om)).1) _ [Cl u [iV e.d.1,iV e.d.2.1,uV e.d.2.2,iV e.num,iV e.h.1,uV e.h.2] 228,R] O) ?_ ?_
 ·
  intro P Q
  have S:sat g _ (J_ (((Bp E k).length)+1)::_):=Q
  have ag:=((List.getElem?_eq_some_iff.1 (Ji f om)).1:((Bp E k).length)<((Ac E).length))
  refine go [.v 5 0 (CD ((k:Int)+1))] ?_
  refine ET ?_
  have T:sat g P [J_ ((Bp E (k+1)).length),Cl c [pV b] 80,BD b n A E RL,Cl u [iV e.d.1,iV e.d.2.1,uV e.d.2.2,iV e.num,iV e.h.1,uV e.h.2] 228,R]:=(show ((Bp E k).length)+1=(Bp E (k+1)).length from (Ty f).symm)▸S
  have U:=T.d.c.c.c.t5.t4
  change ∃n',n'<_∧_
  refine⟨(256-(k+1)),by omega,(k+1),_,rfl,om,(Ck [.k 0 (.func (Fn.yield k_) #[] #[]),.k 1 (pV c),.o 6 (oJ .i64 ((k:Int)+1) (((k+1):Nat):Int))]),U⟩
 intro ah V
 have W:sat g _ (E_ ((Bp E k).length)::_):=V
 have ai:=((List.getElem?_eq_some_iff.1 (Ji f om)).1:((Bp E k).length)<((Ac E).length))
 refine g0<|up<|g0 ?_
 exact en (.tuple #[]) [] ⟨⟨_,rfl⟩,.inr ⟨((Bp E k).length),om,W.b.a.t3.t2⟩⟩
end
theorem JD{n:Nat}{l:Fr}{o:Oper}{x y:Operand}(a b c d c1 c2:Int)(ho:o.op= .binOp .neq 39 x y 39)(hx:fe n l x= .agg #[iV a,iV b,uV c])(hy:fe n l y= .agg #[iV d,iV c1,uV c2])(h:a=d∧b=c1∧c=c2)(w:World):(execOp (fe n l) o).run prog w= .ok (.value (bF)) w:=by
 obtain⟨rfl,rfl,rfl⟩:=h
 simp[execOp,ho,hx,hy,go_sem]
theorem DK{n:Nat}{l:Fr}{o:Oper}{x y:Operand}(b c d e c1 c2:Int)(ho:o.op= .binOp .neq 39 x y 39)(hx:fe n l x= .agg #[iV b,iV c,uV d])(hy:fe n l y= .agg #[iV e,iV c1,uV c2])(h: ¬(b=e∧c=c1∧d=c2))(w:World):(execOp (fe n l) o).run prog w= .ok (.value (bT)) w:=by
 by_cases a:b=e
 · skip
   by_cases f:c=c1
   · skip
     by_cases i:d=c2
     · exact absurd ⟨a,f,i⟩ h
     · simp[execOp,ho,hx,hy,go_sem,a,f,i]
   · simp[execOp,ho,hx,hy,go_sem,a,f]
 · simp[execOp,ho,hx,hy,go_sem,a]
theorem MU(b n:Nat)(A:List AM)(E:Tm)(RL:List Rs)(x y z:Int)(H:0≤z)(I:z≤4294967295)(ho: ¬(1≤x∧x≤3∧0≤y∧y≤255∧1≤z)):HQ 283 [pV b,.agg #[iV x,iV y,uV z]] [BD b n A E RL] (.tuple #[.agg #[iV 0,iV 0,uV 0,iV 0,iV 0,uV 0],iV 2]) [BD b n A E RL]:=by
 refine AC func283 ntmps283 fun g w0 R h0=>g0<|nP 39 [iV x,iV y,uV z] h0 (fun _ _ l=> ?_)
 refine nP 228 [iV 0,iV 0,uV 0,iV 0,iV 0,uV 0] l (fun _ _ m=> ?_)
 have o:=m.b.t4
 refine g0<|AF call119 (BF b n A E RL) o fun _ d=>go [rd 3 0 2 0 3 d] ?_
 by_cases J:1≤x
 ·
  by_cases L:x≤3
  ·
   by_cases M:0≤y
   ·
    by_cases N:y≤255
    ·
     refine AP call281 (F9 x y z om om om) d fun _ p=> ?_
     have q:=p.a.t4
     refine g0<|sA [iV 0,iV 0,uV 0,iV 0,iV 0,uV 0] q fun _ e=>g0 ?_
     exact AD _ [rd 0 0 0 0 6 e] e.a.t4.c.a.t2
    refine AP call281 (F9 x y z om om om) d fun _ s=> ?_
    have t:=s.a.t4
    refine g0<|sA [iV 0,iV 0,uV 0,iV 0,iV 0,uV 0] t fun _ f=>g0 ?_
    exact AD _ [rd 0 0 0 0 6 f] f.a.t4.c.a.t2
   refine AP call281 (F9 x y z om om om) d fun _ u=> ?_
   have B:=u.a.t4
   refine g0<|sA [iV 0,iV 0,uV 0,iV 0,iV 0,uV 0] B fun _ i=>g0 ?_
   exact AD _ [rd 0 0 0 0 6 i] i.a.t4.c.a.t2
  refine AP call281 (F9 x y z om om om) d fun _ C=> ?_
  have D:=C.a.t4
  refine g0<|sA [iV 0,iV 0,uV 0,iV 0,iV 0,uV 0] D fun _ j=>g0 ?_
  exact AD _ [rd 0 0 0 0 6 j] j.a.t4.c.a.t2
 refine AP call281 (F9 x y z om om om) d fun _ F=> ?_
 have G:=F.a.t4
 refine g0<|sA [iV 0,iV 0,uV 0,iV 0,iV 0,uV 0] G fun _ k=>g0 ?_
 exact AD _ [rd 0 0 0 0 6 k] k.a.t4.c.a.t2
theorem KK(b n:Nat)(A:List AM)(E:Tm)(RL:List Rs)(x y z:Int)(J:0≤z)(L:z≤4294967295)(ho:1≤x∧x≤3∧0≤y∧y≤255∧1≤z)(hg_:Aa E y=none):HQ 283 [pV b,.agg #[iV x,iV y,uV z]] [BD b n A E RL] (.tuple #[.agg #[iV 0,iV 0,uV 0,iV 0,iV 0,uV 0],iV 7]) [BD b n A E RL]:=by
 refine AC func283 ntmps283 fun g w0 R h0=>g0<|nP 39 [iV x,iV y,uV z] h0 (fun M _ o=> ?_)
 refine nP 228 [iV 0,iV 0,uV 0,iV 0,iV 0,uV 0] o (fun N _ p=> ?_)
 have q:=p.b.t4
 refine g0<|AF call119 (BF b n A E RL) q fun _ i=>go [rd 3 0 2 0 3 i]<|AP call281 (FD x y z om om om) i fun _ s=>g0<|dw (AE [0,1,2,3,4,5] (Tr.an2 6 (AE [7,8,9] (Tr.an 10 (Tr.an 11 (Tr.fl 12 Tr.nil)))) 10 (Tr.an 6 (AE [7,8,9] (Tr.an 11 (Tr.fl 12 Tr.nil)))))) s fun _ u=> ?_
 obtain⟨O,P,Q,S,E27,hM28,c⟩:=Ay u
 have hRl_:=hM28.2
 refine go [rd 5 3 0 1 1 c,rd 5 5 5 1 1 c] ?_
 refine IN ?_ ?_
 ·
  refine AH ?_
  refine AX (d:=25) (.tuple #[.agg #[iV 0,iV 0,uV 0,iV 0,iV 0,uV 0],bF]) kr rfl (BK (t:=174) (z:= .agg #[iV 0,iV 0,uV 0,iV 0,iV 0,uV 0]) (m:=Ot 22) (x:=Ot 24) (kv:=kI) (ve:=vE) kr underlying174 Dc kr y kr kr (j:=2) c rfl (.agg #[iV 0,iV 0,uV 0,iV 0,iV 0,uV 0]) false (by rw[hM28.1.2.2 y,hg_];exact⟨rfl,rfl⟩)) ?_
  refine⟨kd [],DE ?_⟩
  refine g0<|nG (fun q_=>pV q_) 228 [iV 0,iV 0,uV 0,iV 0,iV 0,uV 0] c (fun T _ B=>⟨kd [],?_⟩)
  refine sB [iV 0,iV 0,uV 0,iV 0,iV 0,uV 0] B fun _ C=>⟨kd [],?_⟩
  have D:=C.e.t8
  refine g0<|sA [iV 0,iV 0,uV 0,iV 0,iV 0,uV 0] D fun U k=>g0 ?_
  have F:sat g _ (BD b n A E RL::_):=AV hM28.1 om (by first|rfl |omega) k.e.e.e.e.t8
  exact AD _ [rd 0 0 0 0 6 k] F.d.a.t2
 refine nG (fun q_=>pV q_) 228 [iV 0,iV 0,uV 0,iV 0,iV 0,uV 0] c (fun V _ f=>⟨kd [rd 0 5 6 1 1 f,rd 0 3 1 1 1 f],?_⟩)
 refine AH ?_
 refine AX (d:=25) (.tuple #[.agg #[iV 0,iV 0,uV 0,iV 0,iV 0,uV 0],bF]) kr rfl (BK (t:=174) (z:= .agg #[iV 0,iV 0,uV 0,iV 0,iV 0,uV 0]) (m:=Ot 22) (x:=Ot 24) (kv:=kI) (ve:=vE) kr underlying174 Dc kr y kr kr (j:=3) f rfl (.agg #[iV 0,iV 0,uV 0,iV 0,iV 0,uV 0]) false (by rw[hM28.1.2.2 y,hg_];exact⟨rfl,rfl⟩)) ?_
 refine⟨kd [],DE ?_⟩
 refine g0<|sB [iV 0,iV 0,uV 0,iV 0,iV 0,uV 0] f fun _ G=>⟨kd [],?_⟩
 have H:=G.e.t8
 refine g0<|sA [iV 0,iV 0,uV 0,iV 0,iV 0,uV 0] H fun W l=>g0 ?_
 have I:sat g _ (BD b n A E RL::_):=AV hM28.1 om (by first|rfl |omega) l.e.e.e.e.t8
 exact AD _ [rd 0 0 0 0 6 l] I.d.a.t2
theorem Pk(b n:Nat)(A:List AM)(E:Tm)(RL:List Rs)(x y z:Int)(e:Ety)(L:0≤z)(M:z≤4294967295)(ho:1≤x∧x≤3∧0≤y∧y≤255∧1≤z)(hg_:Aa E y=some e)(hd_:e.d.1=x∧e.d.2.1=y∧e.d.2.2=z):HQ 283 [pV b,.agg #[iV x,iV y,uV z]] [BD b n A E RL] (.tuple #[.agg #[iV e.d.1,iV e.d.2.1,uV e.d.2.2,iV e.num,iV e.h.1,uV e.h.2],iV 0]) [BD b n A E RL]:=by
 refine AC func283 ntmps283 fun g w0 R h0=>g0<|nP 39 [iV x,iV y,uV z] h0 (fun N _ q=> ?_)
 refine nP 228 [iV 0,iV 0,uV 0,iV 0,iV 0,uV 0] q (fun O _ u=> ?_)
 have B:=u.b.t4
 refine g0<|AF call119 (BF b n A E RL) B fun _ l=>go [rd 3 0 2 0 3 l]<|AP call281 (FD x y z om om om) l fun _ C=>g0<|dw (AE [0,1,2,3,4,5] (Tr.an2 6 (AE [7,8,9] (Tr.an 10 (Tr.an 11 (Tr.fl 12 Tr.nil)))) 10 (Tr.an 6 (AE [7,8,9] (Tr.an 11 (Tr.fl 12 Tr.nil)))))) C fun _ D=> ?_
 obtain⟨P,Q,S,T,E27,hM28,c⟩:=Ay D
 have hRl_:=hM28.2
 refine go [rd 5 3 0 1 1 c,rd 5 5 5 1 1 c] ?_
 refine IN ?_ ?_
 ·
  refine AH ?_
  refine AX (d:=25) (.tuple #[.agg #[iV e.d.1,iV e.d.2.1,uV e.d.2.2,iV e.num,iV e.h.1,uV e.h.2],bT]) kr rfl (BK (t:=174) (z:= .agg #[iV 0,iV 0,uV 0,iV 0,iV 0,uV 0]) (m:=Ot 22) (x:=Ot 24) (kv:=kI) (ve:=vE) kr underlying174 Dc kr y kr kr (j:=2) c rfl (.agg #[iV e.d.1,iV e.d.2.1,uV e.d.2.2,iV e.num,iV e.h.1,uV e.h.2]) true (by rw[hM28.1.2.2 y,hg_];exact⟨rfl,rfl⟩)) ?_
  refine⟨kd [],DE ?_⟩
  refine g0<|nG (fun q_=>pV q_) 228 [iV 0,iV 0,uV 0,iV 0,iV 0,uV 0] c (fun U _ F=>⟨kd [],?_⟩)
  refine sB [iV e.d.1,iV e.d.2.1,uV e.d.2.2,iV e.num,iV e.h.1,uV e.h.2] F fun _ f=>⟨kd [],?_⟩
  refine go [rd 6 4 0 0 3 f,rd 6 5 6 0 3 f,.s 6 6]<|AS (bF) (JD (x:=Ot 32) (y:=Ot 33) e.d.1 e.d.2.1 e.d.2.2 x y z kr kr kr ⟨om,om,om⟩ _) ?_
  have G:=f.e.t8
  refine go [rd 8 0 0 0 6 f]<|sA [iV e.d.1,iV e.d.2.1,uV e.d.2.2,iV e.num,iV e.h.1,uV e.h.2] G fun V o=>g0 ?_
  have H:sat g _ (BD b n A E RL::_):=AV hM28.1 om (by first|rfl |omega) o.e.e.e.e.t8
  exact AD _ [rd 0 0 0 0 6 o] H.d.a.t2
 refine nG (fun q_=>pV q_) 228 [iV 0,iV 0,uV 0,iV 0,iV 0,uV 0] c (fun W _ i=>⟨kd [rd 0 5 6 1 1 i,rd 0 3 1 1 1 i],?_⟩)
 refine AH ?_
 refine AX (d:=25) (.tuple #[.agg #[iV e.d.1,iV e.d.2.1,uV e.d.2.2,iV e.num,iV e.h.1,uV e.h.2],bT]) kr rfl (BK (t:=174) (z:= .agg #[iV 0,iV 0,uV 0,iV 0,iV 0,uV 0]) (m:=Ot 22) (x:=Ot 24) (kv:=kI) (ve:=vE) kr underlying174 Dc kr y kr kr (j:=3) i rfl (.agg #[iV e.d.1,iV e.d.2.1,uV e.d.2.2,iV e.num,iV e.h.1,uV e.h.2]) true (by rw[hM28.1.2.2 y,hg_];exact⟨rfl,rfl⟩)) ?_
 refine⟨kd [],DE ?_⟩
 refine g0<|sB [iV e.d.1,iV e.d.2.1,uV e.d.2.2,iV e.num,iV e.h.1,uV e.h.2] i fun _ k=>⟨kd [],?_⟩
 refine go [rd 6 4 0 0 3 k,rd 6 5 6 0 3 k,.s 6 6]<|AS (bF) (JD (x:=Ot 32) (y:=Ot 33) e.d.1 e.d.2.1 e.d.2.2 x y z kr kr kr ⟨om,om,om⟩ _) ?_
 have I:=k.e.t8
 refine go [rd 8 0 0 0 6 k]<|sA [iV e.d.1,iV e.d.2.1,uV e.d.2.2,iV e.num,iV e.h.1,uV e.h.2] I fun X p=>g0 ?_
 have J:sat g _ (BD b n A E RL::_):=AV hM28.1 om (by first|rfl |omega) p.e.e.e.e.t8
 exact AD _ [rd 0 0 0 0 6 p] J.d.a.t2
theorem KL(b n:Nat)(A:List AM)(E:Tm)(RL:List Rs)(x y z:Int)(e:Ety)(Y:0≤z)(Z:z≤4294967295)(ho:1≤x∧x≤3∧0≤y∧y≤255∧1≤z)(hg_:Aa E y=some e)(hd_: ¬(e.d.1=x∧e.d.2.1=y∧e.d.2.2=z)):HQ 283 [pV b,.agg #[iV x,iV y,uV z]] [BD b n A E RL] (.tuple #[.agg #[iV 0,iV 0,uV 0,iV 0,iV 0,uV 0],iV 7]) [BD b n A E RL]:=by
 refine AC func283 ntmps283 fun g w0 R h0=>g0<|nP 39 [iV x,iV y,uV z] h0 (fun aa _ D=> ?_)
 refine nP 228 [iV 0,iV 0,uV 0,iV 0,iV 0,uV 0] D (fun ab _ F=> ?_)
 have G:=F.b.t4
 refine g0<|AF call119 (BF b n A E RL) G fun _ l=>go [rd 3 0 2 0 3 l]<|AP call281 (FD x y z om om om) l fun _ H=>g0<|dw (AE [0,1,2,3,4,5] (Tr.an2 6 (AE [7,8,9] (Tr.an 10 (Tr.an 11 (Tr.fl 12 Tr.nil)))) 10 (Tr.an 6 (AE [7,8,9] (Tr.an 11 (Tr.fl 12 Tr.nil)))))) H fun _ I=> ?_
 obtain⟨ac,ad,ae,af,E27,hM28,c⟩:=Ay I
 have hRl_:=hM28.2
 refine go [rd 5 3 0 1 1 c,rd 5 5 5 1 1 c] ?_
 refine IN ?_ ?_
 ·
  refine AH ?_
  refine AX (d:=25) (.tuple #[.agg #[iV e.d.1,iV e.d.2.1,uV e.d.2.2,iV e.num,iV e.h.1,uV e.h.2],bT]) kr rfl (BK (t:=174) (z:= .agg #[iV 0,iV 0,uV 0,iV 0,iV 0,uV 0]) (m:=Ot 22) (x:=Ot 24) (kv:=kI) (ve:=vE) kr underlying174 Dc kr y kr kr (j:=2) c rfl (.agg #[iV e.d.1,iV e.d.2.1,uV e.d.2.2,iV e.num,iV e.h.1,uV e.h.2]) true (by rw[hM28.1.2.2 y,hg_];exact⟨rfl,rfl⟩)) ?_
  refine⟨kd [],DE ?_⟩
  refine g0<|nG (fun q_=>pV q_) 228 [iV 0,iV 0,uV 0,iV 0,iV 0,uV 0] c (fun ag _ J=>⟨kd [],?_⟩)
  refine sB [iV e.d.1,iV e.d.2.1,uV e.d.2.2,iV e.num,iV e.h.1,uV e.h.2] J fun _ f=>⟨kd [],?_⟩
  refine go [rd 6 4 0 0 3 f,rd 6 5 6 0 3 f,.s 6 6] ?_
  by_cases ah:e.d.1=x
  ·
   by_cases ai:e.d.2.1=y
   ·
    refine AS (bT) (DK (x:=Ot 32) (y:=Ot 33) e.d.1 e.d.2.1 e.d.2.2 x y z kr kr kr om _) ?_
    have L:=f.e.t8
    refine g0<|sA [iV 0,iV 0,uV 0,iV 0,iV 0,uV 0] L fun aj o=>g0 ?_
    have M:sat g _ (BD b n A E RL::_):=AV hM28.1 om (by first|rfl |omega) o.e.e.e.e.t8
    exact AD _ [rd 0 0 0 0 6 o] M.d.a.t2
   refine AS (bT) (DK (x:=Ot 32) (y:=Ot 33) e.d.1 e.d.2.1 e.d.2.2 x y z kr kr kr om _) ?_
   have N:=f.e.t8
   refine g0<|sA [iV 0,iV 0,uV 0,iV 0,iV 0,uV 0] N fun ak p=>g0 ?_
   have O:sat g _ (BD b n A E RL::_):=AV hM28.1 om (by first|rfl |omega) p.e.e.e.e.t8
   exact AD _ [rd 0 0 0 0 6 p] O.d.a.t2
  refine AS (bT) (DK (x:=Ot 32) (y:=Ot 33) e.d.1 e.d.2.1 e.d.2.2 x y z kr kr kr om _) ?_
  have P:=f.e.t8
  refine g0<|sA [iV 0,iV 0,uV 0,iV 0,iV 0,uV 0] P fun al q=>g0 ?_
  have Q:sat g _ (BD b n A E RL::_):=AV hM28.1 om (by first|rfl |omega) q.e.e.e.e.t8
  exact AD _ [rd 0 0 0 0 6 q] Q.d.a.t2
 refine nG (fun q_=>pV q_) 228 [iV 0,iV 0,uV 0,iV 0,iV 0,uV 0] c (fun am _ k=>⟨kd [rd 0 5 6 1 1 k,rd 0 3 1 1 1 k],?_⟩)
 refine AH ?_
 refine AX (d:=25) (.tuple #[.agg #[iV e.d.1,iV e.d.2.1,uV e.d.2.2,iV e.num,iV e.h.1,uV e.h.2],bT]) kr rfl (BK (t:=174) (z:= .agg #[iV 0,iV 0,uV 0,iV 0,iV 0,uV 0]) (m:=Ot 22) (x:=Ot 24) (kv:=kI) (ve:=vE) kr underlying174 Dc kr y kr kr (j:=3) k rfl (.agg #[iV e.d.1,iV e.d.2.1,uV e.d.2.2,iV e.num,iV e.h.1,uV e.h.2]) true (by rw[hM28.1.2.2 y,hg_];exact⟨rfl,rfl⟩)) ?_
 refine⟨kd [],DE ?_⟩
 refine g0<|sB [iV e.d.1,iV e.d.2.1,uV e.d.2.2,iV e.num,iV e.h.1,uV e.h.2] k fun _ i=>⟨kd [],?_⟩
 refine go [rd 6 4 0 0 3 i,rd 6 5 6 0 3 i,.s 6 6] ?_
 by_cases ao:e.d.1=x
 ·
  by_cases ap:e.d.2.1=y
  ·
   refine AS (bT) (DK (x:=Ot 32) (y:=Ot 33) e.d.1 e.d.2.1 e.d.2.2 x y z kr kr kr om _) ?_
   have S:=i.e.t8
   refine g0<|sA [iV 0,iV 0,uV 0,iV 0,iV 0,uV 0] S fun aq u=>g0 ?_
   have T:sat g _ (BD b n A E RL::_):=AV hM28.1 om (by first|rfl |omega) u.e.e.e.e.t8
   exact AD _ [rd 0 0 0 0 6 u] T.d.a.t2
  refine AS (bT) (DK (x:=Ot 32) (y:=Ot 33) e.d.1 e.d.2.1 e.d.2.2 x y z kr kr kr om _) ?_
  have U:=i.e.t8
  refine g0<|sA [iV 0,iV 0,uV 0,iV 0,iV 0,uV 0] U fun ar B=>g0 ?_
  have V:sat g _ (BD b n A E RL::_):=AV hM28.1 om (by first|rfl |omega) B.e.e.e.e.t8
  exact AD _ [rd 0 0 0 0 6 B] V.d.a.t2
 refine AS (bT) (DK (x:=Ot 32) (y:=Ot 33) e.d.1 e.d.2.1 e.d.2.2 x y z kr kr kr om _) ?_
 have W:=i.e.t8
 refine g0<|sA [iV 0,iV 0,uV 0,iV 0,iV 0,uV 0] W fun au C=>g0 ?_
 have X:sat g _ (BD b n A E RL::_):=AV hM28.1 om (by first|rfl |omega) C.e.e.e.e.t8
 exact AD _ [rd 0 0 0 0 6 C] X.d.a.t2
theorem dR(b n:Nat)(A:List AM)(E:Tm)(RL:List Rs):HQ 54 [pV b] [BD b n A E RL] (iV (RL.length:Int)) [BD b n A E RL]:=by
 refine AC func54 ntmps54 fun g w0 R h0=>g0<|AF call119 (BF b n A E RL) h0 fun e c=> ?_
 obtain⟨f,i,j,k,E16,hM17,a⟩:=Ay c
 have hRl_:=hM17.2
 refine go [rd 3 3 0 2 1 a] ?_
 have d:sat g _ (BD b n A E RL::_):=AV hM17.1 om (by first|rfl |omega) a
 exact AD _ [] d
theorem X5(b n:Nat)(A:List AM)(E:Tm)(RL:List Rs):HQ 268 [pV b] [BD b n A E RL] (iV (((AJ 0 A 0).length:Nat):Int)) [BD b n A E RL]:=by
 refine AC func268 ntmps268 fun g w0 R h0=>g0<|AF call119 (BF b n A E RL) h0 fun _ d=> ?_
 obtain⟨e,k,l,m,E16,hM17,c⟩:=Ay d
 have hRl_:=hM17.2
 have f:=c.a.t5
 refine go [rd 3 3 0 0 1 c]<|AF call279 (Hj e n A) f fun o i=>g0 ?_
 have j:sat g _ (BD b n A E RL::_):=AV hM17.1 om (by first|rfl |omega) i.a.t5
 exact AD _ [] j
theorem MV(b n:Nat)(A:List AM)(E:Tm)(RL:List Rs)(v:Int)(h:1≤v∧v≤(RL.length:Int)):HQ 284 [pV b,iV v] [BD b n A E RL] (iV 0) [BD b n A E RL]:=by
 refine AC func284 ntmps284 fun g w0 R h0=>g0<|AF call119 (BF b n A E RL) h0 fun e c=> ?_
 obtain⟨f,i,j,k,E16,hM17,a⟩:=Ay c
 have hRl_:=hM17.2
 refine go [.v 3 1 (oF (v<1)),rd 3 7 0 2 1 a,.v 3 9 (oF (v>(RL.length:Int)))] ?_
 have d:sat g _ (BD b n A E RL::_):=AV hM17.1 om (by first|rfl |omega) a
 exact AD _ [] d
theorem MW(b n:Nat)(A:List AM)(E:Tm)(RL:List Rs)(v:Int)(h:v<1∨(RL.length:Int)<v):HQ 284 [pV b,iV v] [BD b n A E RL] (iV 3) [BD b n A E RL]:=by
 refine AC func284 ntmps284 fun g w0 R h0=>g0<|AF call119 (BF b n A E RL) h0 fun f a=>go [.s 3 1] ?_
 by_cases c:v<1
 ·
  refine go [.v 3 1 (oT _ c)] ?_
  exact AD _ [] a
 obtain⟨i,j,k,l,E17,hM18,d⟩:=Ay a
 have hRl_:=hM18.2
 refine go [.v 3 1 (oF _ c),rd 3 7 0 2 1 d,.v 3 9 (oT (v>(RL.length:Int)))] ?_
 have e:sat g _ (BD b n A E RL::_):=AV hM18.1 om (by first|rfl |omega) d
 exact AD _ [] e
theorem mW(b n:Nat)(A:List AM)(j:Nat)(gj:Int)(h:(AJ 0 A 0)[0]? =some (j,gj)):HT prog 231 [pV b] [Tb b n A] (fun v K=>v=.tuple #[.agg #[Value.int .i64 (j:Int),Value.int .u32 gj],Value.int .i64 0]∧K= [Tb b n (A.set j (1,gj))]):=
 (Gb b n A).mono fun v K hP=>by
  have hl:=(List.getElem?_eq_some_iff.1 h).1
  rw[(CQ hl).1,(CQ hl).2,getD_some h] at hP
  exact hP
theorem X6(b n:Nat)(A:List AM)(E:Tm)(RL:List Rs)(vn:Int)(hg_:Aa E vn=none):HQ 298 [pV b,iV vn] [BD b n A E RL] (.tuple #[.agg #[iV 0,iV 0,uV 0],bF]) [BD b n A E RL]:=by
 refine AC func298 ntmps298 fun g w0 R h0=>g0<|nP 39 [iV 0,iV 0,uV 0] h0 (fun y _ l=> ?_)
 have o:=l.a.t3
 refine g0<|AF call119 (BF b n A E RL) o fun _ p=> ?_
 obtain⟨B,C,D,F,E20,hM21,f⟩:=Ay p
 have hRl_:=hM21.2
 refine go [rd 3 3 0 1 1 f] ?_
 refine AH ?_
 refine AX (d:=18) (.tuple #[.agg #[iV 0,iV 0,uV 0,iV 0,iV 0,uV 0],bF]) kr rfl (BK (t:=174) (z:= .agg #[iV 0,iV 0,uV 0,iV 0,iV 0,uV 0]) (m:=Ot 16) (x:=Ot 17) (kv:=kI) (ve:=vE) kr underlying174 Dc kr vn kr kr (j:=2) f rfl (.agg #[iV 0,iV 0,uV 0,iV 0,iV 0,uV 0]) false (by rw[hM21.1.2.2 vn,hg_];exact⟨rfl,rfl⟩)) ?_
 refine B1<|g0<|nP 228 [iV 0,iV 0,uV 0,iV 0,iV 0,uV 0] f (fun G _ q=> ?_)
 refine sA [iV 0,iV 0,uV 0,iV 0,iV 0,uV 0] q fun _ i=> ?_
 have s:=i.e.t7
 refine go [rd 4 1 0 0 3 i]<|sA [iV 0,iV 0,uV 0] s fun H k=>g0 ?_
 have u:sat g _ (BD b n A E RL::_):=AV hM21.1 om (by first|rfl |omega) k.e.e.e.e.t7
 exact AD _ [rd 0 0 0 0 3 k] u.c.a.t2
theorem mX(b n:Nat)(A:List AM)(E:Tm)(RL:List Rs)(vn:Int)(e:Ety)(hg_:Aa E vn=some e):HQ 298 [pV b,iV vn] [BD b n A E RL] (.tuple #[.agg #[iV e.d.1,iV e.d.2.1,uV e.d.2.2],bT]) [BD b n A E RL]:=by
 refine AC func298 ntmps298 fun g w0 R h0=>g0<|nP 39 [iV 0,iV 0,uV 0] h0 (fun y _ l=> ?_)
 have o:=l.a.t3
 refine g0<|AF call119 (BF b n A E RL) o fun _ p=> ?_
 obtain⟨B,C,D,F,E20,hM21,f⟩:=Ay p
 have hRl_:=hM21.2
 refine go [rd 3 3 0 1 1 f] ?_
 refine AH ?_
 refine AX (d:=18) (.tuple #[.agg #[iV e.d.1,iV e.d.2.1,uV e.d.2.2,iV e.num,iV e.h.1,uV e.h.2],bT]) kr rfl (BK (t:=174) (z:= .agg #[iV 0,iV 0,uV 0,iV 0,iV 0,uV 0]) (m:=Ot 16) (x:=Ot 17) (kv:=kI) (ve:=vE) kr underlying174 Dc kr vn kr kr (j:=2) f rfl (.agg #[iV e.d.1,iV e.d.2.1,uV e.d.2.2,iV e.num,iV e.h.1,uV e.h.2]) true (by rw[hM21.1.2.2 vn,hg_];exact⟨rfl,rfl⟩)) ?_
 refine B1<|g0<|nP 228 [iV 0,iV 0,uV 0,iV 0,iV 0,uV 0] f (fun G _ q=> ?_)
 refine sA [iV e.d.1,iV e.d.2.1,uV e.d.2.2,iV e.num,iV e.h.1,uV e.h.2] q fun _ i=> ?_
 have s:=i.e.t7
 refine go [rd 4 1 0 0 3 i]<|sA [iV e.d.1,iV e.d.2.1,uV e.d.2.2] s fun H k=>g0 ?_
 have u:sat g _ (BD b n A E RL::_):=AV hM21.1 om (by first|rfl |omega) k.e.e.e.e.t7
 exact AD _ [rd 0 0 0 0 3 k] u.c.a.t2
theorem T5(b n:Nat)(A:List AM)(E:Tm)(RL:List Rs)(vn:Int)(h:vn<1∨(RL.length:Int)<vn):HQ 210 [pV b,iV vn] [BD b n A E RL] (.tuple #[.agg #[iV 0,iV 0,uV 0,iV 0,iV 0,iV 0,iV 0,sV []],iV 3]) [BD b n A E RL]:=by
 refine AC func210 ntmps210 fun g w0 R h0=>g0<|nP 226 [iV 0,iV 0,uV 0,iV 0,iV 0,iV 0,iV 0,sV []] h0 (fun _ _ c=> ?_)
 refine g0 ?_
 by_cases l:1≤vn
 ·
  refine AF call284 (MW b n A E RL vn om) c.a.t3 fun _ f=> ?_
  have i:=f.a.t3
  refine g0<|sA [iV 0,iV 0,uV 0,iV 0,iV 0,iV 0,iV 0,sV []] i fun _ d=>g0 ?_
  exact AD _ [rd 0 0 0 0 8 d] d.a.t3.b.a.t2
 refine AF call284 (MW b n A E RL vn om) c.a.t3 fun _ j=> ?_
 have k:=j.a.t3
 refine g0<|sA [iV 0,iV 0,uV 0,iV 0,iV 0,iV 0,iV 0,sV []] k fun _ e=>g0 ?_
 exact AD _ [rd 0 0 0 0 8 e] e.a.t3.b.a.t2
theorem FY(b n:Nat)(A:List AM)(E:Tm)(RL:List Rs)(vn:Int)(q:Nat)(r:Rs)(hr:RL[q]? =some r)(hv:vn=(q:Int)+1):HQ 210 [pV b,iV vn] [BD b n A E RL] (.tuple #[.agg #[iV r.out.1,iV r.out.2.1,uV r.out.2.2,iV r.st,iV r.why,iV r.tr,iV r.nx,sV r.tag],iV 0]) [BD b n A E RL]:=by
 refine AC func210 ntmps210 fun g w0 R h0=> ?_
 have hq_:=(List.getElem?_eq_some_iff.1 hr).1
 refine g0<|nP 226 [iV 0,iV 0,uV 0,iV 0,iV 0,iV 0,iV 0,sV []] h0 (fun z _ m=> ?_)
 have o:=m.a.t3
 refine g0<|AF call284 (MV b n A E RL vn om) o fun _ p=> ?_
 obtain⟨C,D,t,u,E20,hM21,i⟩:=Ay p
 have hRl_:=hM21.2
 obtain⟨k,f⟩:=Av (j:=3) i rfl om
 refine go [rd 4 3 0 2 1 i,.v 4 5 (CD (vn-1)),.s 4 6]<|AS (.pointer (some ⟨k,q*8,none⟩)) (Ft (Ot 17) (Ot 19) t k 0 (vn-1) RL.length u underlying175 8 q f (q*8)) ?_
 have e:=i.c.t6
 have F:=Ca Ah dc e
 have x:=e.d.t6
 refine go [.r 4 7 k (q*8) [iV r.out.1,iV r.out.2.1,uV r.out.2.2,iV r.st,iV r.why,iV r.tr,iV r.nx,sV r.tag] ⟨CM 0 e rfl f Ah 0 (iV r.out.1) hr (q*8),CM 0 e rfl f Ah 1 (iV r.out.2.1) hr (q*8+1),CM 0 e rfl f Ah 2 (uV r.out.2.2) hr (q*8+2),CM 0 e rfl f Ah 3 (iV r.st) hr (q*8+3),CM 0 e rfl f Ah 4 (iV r.why) hr (q*8+4),CM 0 e rfl f Ah 5 (iV r.tr) hr (q*8+5),CM 0 e rfl f Ah 6 (iV r.nx) hr (q*8+6),CM 0 e rfl f Ah 7 (sV r.tag) hr (q*8+7),trivial⟩]<|sA [iV r.out.1,iV r.out.2.1,uV r.out.2.2,iV r.st,iV r.why,iV r.tr,iV r.nx,sV r.tag] x fun G l=>g0 ?_
 have y:sat g _ (BD b n A E RL::_):=AV hM21.1 om (by first|rfl |omega) l.a.d.d.d.t6
 exact AD _ [rd 0 0 0 0 8 l] y.B.t2
theorem X7(b n:Nat)(A:List AM)(E:Tm)(RL:List Rs)(x y z:Int)(F:0≤z)(G:z≤4294967295)(q:Nat)(s:AM)(hs:A[q]? =some s)(hd_:y=(q:Int)∧s.1=1∧s.2=z):HQ 308 [pV b,.agg #[iV x,iV y,uV z]] [BD b n A E RL] (.tuple #[]) [BD b n (Ak A q z) (C0 E y) RL]:=by
 refine AC func308 ntmps308 fun g w0 R h0=>g0<|nP 39 [iV x,iV y,uV z] h0 (fun H _ f=> ?_)
 refine g0<|dw (AE [0,1,2,3,4,5] (Tr.an 6 Tr.nil)) f fun _ i=> ?_
 obtain⟨j,k,I,J,E20,hM21,e⟩:=Ay i.a.t3
 have hRl_:=hM21.2
 have l:=e.b.t6
 refine go [rd 1 3 0 1 1 e,rd 1 5 4 1 1 e] ?_
 refine AH ?_
 refine Di (t:=174) (t2:=3) (d:=none) (m:=Ot 7) (x:=Ot 9) (kv:=kI) (ve:=vE) kr underlying174 Dc y kr kr l kr (C0 E20 y) rfl ?_
 intro L o
 refine⟨_,rfl,?_⟩
 have p:sat g _ (Gp kI vE k (C0 E20 y)::_):=o
 refine⟨kd [],IK ?_⟩
 refine g0<|dw (AE [0,1,2,3,4,5,6,7,8] (Tr.an 9 Tr.nil)) p fun _ c=> ?_
 have u:=c.b.t6
 refine go [rd 2 3 1 0 1 c,rd 2 5 4 1 1 c,rd 2 7 4 2 1 c]<|BZ call382 (Hk j n A q s hs y z om) u fun M C=>⟨kd [],?_⟩
 refine g0 ?_
 have D:sat g _ (BD b n (Ak A q z) (C0 E y) RL::_):=AV (dP hM21.1 y) om (by first|rfl |omega) C.b.t6
 exact AD _ [] D.B.t2
theorem X8(o:Option Addr)(p u b n:Nat)(A:List AM)(E:Tm)(RL:List Rs)(vn hx hy:Int)(q:Nat)(r:Rs)(hr:RL[q]? =some r)(hv:vn=(q:Int)+1)(j:Nat)(gj:Int)(hj:(AJ 0 A 0)[0]? =some (j,gj)):HQ 280 [pV b,iV vn,.agg #[iV hx,uV hy]] [VY b n A E RL o p u] (.tuple #[.agg #[iV r.out.1,iV j,uV gj],iV 0]) [VY b n (A.set j (1,gj)) (Au E (j:Int) ⟨(r.out.1,(j:Int),gj),vn,(hx,hy)⟩) RL o p u]:=by
 have hfl_:=(List.getElem?_eq_some_iff.1 hj).1
 refine AC func280 ntmps280 fun g w0 R h0=> ?_
 have hq_:=(List.getElem?_eq_some_iff.1 hr).1
 refine g0<|nP 203 [iV hx,uV hy] h0 (fun V _ H=> ?_)
 refine nP 39 [iV 0,iV 0,uV 0] H (fun W _ I=> ?_)
 obtain⟨J,X,E21,hM22,L⟩:=MT I.b.t4
 have hRl_:=hM22.2
 have C:=L.c.t7
 have Y:=Ca Ah dc C
 have D:=C.c.c.c.t7
 have M:=D.a.t7
 refine go [rd 1 3 0 0 1 D]<|AF call231 (mW J n A j gj hj) M fun _ N=>g0<|nP 203 [iV 0,uV 0] N (fun Z _ O=> ?_)
 refine sA [iV j,uV gj] O fun _ P=>g0<|dw (AE [0,1,2,3,4,5,6,7,8,9,10,11,12,13,14] (Tr.an 15 (Tr.an 16 Tr.nil))) P fun _ i=> ?_
 obtain⟨z,B⟩:=Av (j:=4) i rfl om
 refine go [rd 4 3 2 2 1 i,.v 4 5 (CD (vn-1)),.s 4 6]<|lw (.pointer (some ⟨z,q*8,none⟩)) (fun _=>Ft (Ot 26) (Ot 28) o z 0 (vn-1) p u underlying175 8 q B (q*8))<|go [.r 4 9 z (q*8) [iV r.out.1] ⟨CM 4 i rfl B Ah 0 (iV r.out.1) hr (q*8),trivial⟩,rd 4 11 0 0 1 i,rd 4 13 0 1 1 i]<|nG (fun q_=>pV q_) 39 [iV 0,iV 0,uV 0] i (fun aa _ k=>⟨kd [rd 0 13 1 1 1 k,rd 0 11 1 0 1 k,.r 0 9 z (q*8) [iV r.out.1] ⟨CM 5 k rfl B Ah 0 (iV r.out.1) hr (q*8),trivial⟩,rd 0 3 3 2 1 k],?_⟩)
 refine sB [iV r.out.1,iV j,uV gj] k fun _ Q=>⟨kd [],?_⟩
 refine g0<|dw (AE [0,1,2,3,4,5,6,7,8,9] (Tr.an 10 Tr.nil)) Q fun _ l=> ?_
 have S:=l.d.t9
 refine go [rd 5 3 3 1 1 l,rd 5 5 1 0 1 l,rd 5 6 0 0 3 l,rd 5 8 7 0 2 l] ?_
 refine AH ?_
 refine BL (t:=174) (m:=Ot 41) (x:=Ot 43) (y:=Ot 47) (kv:=kI) (ve:=vE) kr kr underlying174 Dc (j:Int) (⟨(r.out.1,(j:Int),gj),vn,(hx,hy)⟩:Ety) kr kr kr S (Au E21 (j:Int) ⟨(r.out.1,(j:Int),gj),vn,(hx,hy)⟩) rfl ?_
 intro _ F
 refine⟨kd [],IK ?_⟩
 have T:=F.f.t9
 refine go [rd 6 0 1 0 3 F]<|sA [iV r.out.1,iV j,uV gj] T fun ab G=>g0 ?_
 have U:sat g _ (VY b n (A.set j (1,gj)) (Au E (j:Int) ⟨(r.out.1,(j:Int),gj),vn,(hx,hy)⟩) RL o p u::_):=KJ (dO hM22.1 (j:Int) ⟨(r.out.1,(j:Int),gj),vn,(hx,hy)⟩) om G.f.b.e.f.t9
 exact AD (.tuple #[.agg #[iV r.out.1,iV j,uV gj],iV 0]) [rd 0 0 0 0 3 G] U.e.a.t2
theorem Nd{n:Nat}{l:Fr}{o:Oper}{x y:Operand}(a b c c1:Int)(ho:o.op= .binOp .eql 203 x y 203)(hx:fe n l x= .agg #[iV a,uV b])(hy:fe n l y= .agg #[iV c,uV c1])(h:a=c∧b=c1)(w:World):(execOp (fe n l) o).run prog w= .ok (.value (bT)) w:=by
 obtain⟨rfl,rfl⟩:=h
 simp[execOp,ho,hx,hy,go_sem]
theorem Hn{n:Nat}{l:Fr}{o:Oper}{x y:Operand}(a b c c1:Int)(ho:o.op= .binOp .eql 203 x y 203)(hx:fe n l x= .agg #[iV a,uV b])(hy:fe n l y= .agg #[iV c,uV c1])(h: ¬(a=c∧b=c1))(w:World):(execOp (fe n l) o).run prog w= .ok (.value (bF)) w:=by
 by_cases d:a=c
 · skip
   by_cases e:b=c1
   · exact absurd ⟨d,e⟩ h
   · simp[execOp,ho,hx,hy,go_sem,d,e]
 · simp[execOp,ho,hx,hy,go_sem,d]
theorem T6(b n:Nat)(A:List AM)(E:Tm)(RL:List Rs)(hx hy:Int):HT prog 278 [pV b,.agg #[iV hx,uV hy]] [BD b n A E RL] (fun v K=>(v= bT∧(∃e∈Ac E,e.h=(hx,hy))∧K= [BD b n A E RL])∨(v= bF∧(∀e∈Ac E,e.h≠(hx,hy))∧K= [BD b n A E RL])):=by
 refine AC func278 ntmps278 fun g w0 R h0=>g0<|nP 203 [iV hx,uV hy] h0 (fun l _ p=> ?_)
 refine nP 4 [bF] p (fun f _ q=> ?_)
 refine g0<|cP call354 (Pj b) q ?_
 rintro v K _ (⟨t,rfl,rfl⟩) u
 have z:=(B3 u).a.b.t5
 refine g0 ?_
 refine Rr (N:=((Ac E).length)) (fun i rb_=>([(5,pV rb_),(8,.agg #[iV (((Ac E).getD i B7).d.1),iV (((Ac E).getD i B7).d.2.1),uV (((Ac E).getD i B7).d.2.2),iV (((Ac E).getD i B7).num),iV (((Ac E).getD i B7).h.1),uV (((Ac E).getD i B7).h.2)])]:Fr)) (fun i rb_ K=>(∀j:Nat,j<i→((Ac E).getD j B7).h≠(hx,hy))∧K= [Cl rb_ [iV (((Ac E).getD i B7).d.1),iV (((Ac E).getD i B7).d.2.1),uV (((Ac E).getD i B7).d.2.2),iV (((Ac E).getD i B7).num),iV (((Ac E).getD i B7).h.1),uV (((Ac E).getD i B7).h.2)] 228,Cl l [iV hx,uV hy] 203,Cl f [bF] 4]) (fun i K=>(∀j:Nat,j<i→((Ac E).getD j B7).h≠(hx,hy))∧K= [Cl l [iV hx,uV hy] 203,Cl f [bF] 4]) (fun c i K=>(c=Code.ret∧(∃e∈Ac E,e.h=(hx,hy))∧K= [Cl l [iV hx,uV hy] 203,Cl f [bT] 4,BD b n A E RL])) call402 (T4 t b n A E RL) ⟨(fun j h=>absurd h (Nat.not_lt_zero _)),rfl⟩ z ?_ ?_ ?_ ?_
 ·
  rintro i hi_ lp_ X K_ G ⟨hall_,rfl⟩ B
  have C:sat g _ (Cl l [iV hx,uV hy] 203::_):=B
  refine g0<|nP 228 [iV 0,iV 0,uV 0,iV 0,iV 0,uV 0] C (fun D _ F=> ?_)
  refine sA [iV (((Ac E).getD i B7).d.1),iV (((Ac E).getD i B7).d.2.1),uV (((Ac E).getD i B7).d.2.2),iV (((Ac E).getD i B7).num),iV (((Ac E).getD i B7).h.1),uV (((Ac E).getD i B7).h.2)] F fun _ H=>g0 ?_
  exact tK D ⟨hall_,rfl⟩ H
 ·
  rintro i I lp_ Y rb_ K_ G ⟨hall_,rfl⟩ J
  have k:sat g _ (Cl rb_ [iV (((Ac E).getD i B7).d.1),iV (((Ac E).getD i B7).d.2.1),uV (((Ac E).getD i B7).d.2.2),iV (((Ac E).getD i B7).num),iV (((Ac E).getD i B7).h.1),uV (((Ac E).getD i B7).h.2)] 228::_):=J
  refine go [rd 3 1 0 4 2 k,rd 3 2 1 0 2 k,.s 3 3] ?_
  by_cases Z:((Ac E).getD i B7).h.1=hx
  ·
   by_cases aa:((Ac E).getD i B7).h.2=hy
   ·
    refine AS (bT) (Nd (x:=Ot 10) (y:=Ot 11) (((Ac E).getD i B7).h.1) (((Ac E).getD i B7).h.2) hx hy kr kr kr ⟨om,om⟩ _) ?_
    have L:=k.b.t6
    refine g0<|sA [bT] L fun _ M=>g0 ?_
    exact xS ⟨rfl,⟨_,X0 I,Prod.ext (show ((Ac E).getD i B7).h.1=hx from by omega) (show ((Ac E).getD i B7).h.2=hy from by omega)⟩,rfl⟩ M.e.e.b.d.t6.t4
   refine AS (bF) (Hn (x:=Ot 10) (y:=Ot 11) (((Ac E).getD i B7).h.1) (((Ac E).getD i B7).h.2) hx hy kr kr kr om _)<|g0 ?_
   exact bU ⟨(T1 hall_ (T2 om)),rfl⟩ k.e.e.e.e.e.t6.t5
  refine AS (bF) (Hn (x:=Ot 10) (y:=Ot 11) (((Ac E).getD i B7).h.1) (((Ac E).getD i B7).h.2) hx hy kr kr kr om _)<|g0 ?_
  exact bU ⟨(T1 hall_ (T2 om)),rfl⟩ k.e.e.e.e.e.t6.t5
 ·
  rintro D44 ab K_ ⟨hall_,rfl⟩ O
  have P:sat g _ (pt D44 (Obj.deferred (some []))::_):=O
  have Q:=P.b.t6
  refine g0<|sA [bF] Q fun _ S=>g0 ?_
  refine LM (bF) S.a.t6 (fun T m=> [rd 0 0 1 0 1 m]) (fun T m=> ?_) [bF] [(⟨f,0,none⟩,bF)]
  exact⟨_,[BD b n A E RL],rfl,(.inr ⟨rfl,X1 hall_,rfl⟩),m.d.t6.e.a.t2⟩
 rintro D56 ac ex_ i K_ ad (⟨rfl,hex_,rfl⟩) U
 have V:sat g _ (pt D56 (Obj.deferred (some []))::_):=U
 refine g0 ?_
 refine LM (bT) V (fun W o=> [rd 0 0 2 0 1 o]) (fun W o=> ?_) [bT] [(⟨f,0,none⟩,bT)]
 exact⟨_,[BD b n A E RL],rfl,(.inl ⟨rfl,hex_,rfl⟩),o.c.t5.d.a.t2⟩
theorem EI(b n:Nat)(A:List AM)(E:Tm)(RL:List Rs)(vn:Int)(h:1≤vn∧vn≤(RL.length:Int)):HT prog 307 [pV b,iV vn] [BD b n A E RL] (fun v K=> ∃(p:Option Addr) (c:Nat),v= .tuple #[.slice p (Ch E vn).length c,iV 0]∧K= [BD b n A E RL,Sl 39 3 p ((Ch E vn).length) c (fl eO (Ch E vn))]):=by
 refine AC func307 ntmps307 fun g w0 R h0=>g0<|nP 3 [iV vn] h0 (fun o _ q=> ?_)
 have H:=q.a.t3
 refine go [rd 1 1 0 0 1 q]<|AF call284 (MV b n A E RL vn om) H fun _ I=>g0<|nP 67 [.slice none 0 0] I (fun t _ J=> ?_)
 refine g0<|cP call354 (Pj b) J ?_
 rintro v K ah (⟨L,rfl,rfl⟩) M
 have O:=B3 M
 have hal_:(Ac E).length≤256:=T0 E 256
 have P:sat g _ (Sl 39 3 none 0 0 (fl eO [])::_):=CP 39 3 O
 have Q:=P.b.d.t6
 refine g0 ?_
 refine Rr (N:=((Ac E).length)) (fun i rb_=>([(8,pV rb_),(17,.agg #[iV (((Ac E).getD i B7).d.1),iV (((Ac E).getD i B7).d.2.1),uV (((Ac E).getD i B7).d.2.2),iV (((Ac E).getD i B7).num),iV (((Ac E).getD i B7).h.1),uV (((Ac E).getD i B7).h.2)])]:Fr)) (fun i rb_ K=> ∃p:Option Addr,∃k:Nat,∃c:Nat,(k≤i)∧K= [Cl rb_ [iV (((Ac E).getD i B7).d.1),iV (((Ac E).getD i B7).d.2.1),uV (((Ac E).getD i B7).d.2.2),iV (((Ac E).getD i B7).num),iV (((Ac E).getD i B7).h.1),uV (((Ac E).getD i B7).h.2)] 228,Cl o [iV vn] 3,Cl t [.slice p k c] 67,Sl 39 3 p k c (fl eO (Df E vn i))]) (fun i K=> ∃p:Option Addr,∃k:Nat,∃c:Nat,(k≤i)∧K= [Cl o [iV vn] 3,Cl t [.slice p k c] 67,Sl 39 3 p k c (fl eO (Df E vn i))]) (fun c _ K=>False) call402 (T4 L b n A E RL) ⟨none,0,0,(Nat.le_refl _),rfl⟩ Q ?_ ?_ ?_ ?_
 ·
  rintro i hi_ lp_ ai K_ G ⟨p,k,c,hk_,rfl⟩ S
  have T:sat g _ (Cl o [iV vn] 3::_):=S
  refine g0<|nP 228 [iV 0,iV 0,uV 0,iV 0,iV 0,uV 0] T (fun U _ V=> ?_)
  refine sA [iV (((Ac E).getD i B7).d.1),iV (((Ac E).getD i B7).d.2.1),uV (((Ac E).getD i B7).d.2.2),iV (((Ac E).getD i B7).num),iV (((Ac E).getD i B7).h.1),uV (((Ac E).getD i B7).h.2)] V fun _ W=>g0 ?_
  exact tK U ⟨p,k,c,hk_,rfl⟩ W
 ·
  rintro i u lp_ aj rb_ K_ G ⟨p,k,c,hk_,rfl⟩ X
  have j:sat g _ (Cl rb_ [iV (((Ac E).getD i B7).d.1),iV (((Ac E).getD i B7).d.2.1),uV (((Ac E).getD i B7).d.2.2),iV (((Ac E).getD i B7).num),iV (((Ac E).getD i B7).h.1),uV (((Ac E).getD i B7).h.2)] 228::_):=X
  refine go [rd 7 1 0 3 1 j,rd 7 2 1 0 1 j,.s 7 3] ?_
  by_cases y:((Ac E).getD i B7).num=vn
  ·
   refine go [.v 7 3 (G9 _ _ y),rd 8 0 2 0 1 j,rd 8 2 0 0 3 j]<|nG (fun q_=> .slice (some ⟨q_,0,none⟩) 1 1) 39 [iV (((Ac E).getD i B7).d.1),iV (((Ac E).getD i B7).d.2.1),uV (((Ac E).getD i B7).d.2.2)] j (fun Y _ Z=>⟨kd [],?_⟩)
   have z:=Z.d.t8
   refine AH ?_
   refine aA 26 3 (Ot 22) (Ot 25) (.agg #[iV 0,iV 0,uV 0]) p k c 1 1 (⟨Y,0,none⟩) 24 underlying67 z (fl eO [(((Ac E).getD i B7).d.1,((Ac E).getD i B7).d.2.1,((Ac E).getD i B7).d.2.2)]) rfl (Br z rfl) (Aw B6 _) (k+1) ?_
   intro l m ak aa
   have B:sat g _ (Sl 39 3 l (k+1) m (fl eO ((Df E vn i)++ [(((Ac E).getD i B7).d.1,((Ac E).getD i B7).d.2.1,((Ac E).getD i B7).d.2.2)]))::_):=sJ aa
   obtain⟨al,am⟩:=BH B
   refine B1<|sA [.slice l (k+1) m] B.d.t8 fun an ab=>g0 ?_
   have ac:sat g _ (Sl 39 3 l (k+1) m (fl eO (Df E vn (i+1)))::_):=AI ab.a.t8 (fun _ hh_=>by rw[show (((Df E vn i)++ [(((Ac E).getD i B7).d.1,((Ac E).getD i B7).d.2.1,((Ac E).getD i B7).d.2.2)]):List Ky)=(Df E vn (i+1)) from X2 u om] at hh_;exact hh_)
   exact bU ⟨l,k+1,m,om,rfl⟩ ac.x.x.x.c.d.x.t8.t6
  refine go [.v 7 3 (DR _ _ y)] ?_
  have ad:sat g _ (Sl 39 3 p k c (fl eO (Df E vn (i+1)))::_):=AI j.c.t7 (fun _ hh_=>by rw[show ((Df E vn i):List Ky)=(Df E vn (i+1)) from X3 u om] at hh_;exact hh_)
  exact bU ⟨p,k,c,om,rfl⟩ ad.f.f.f.c.f.f.t7.t6
 ·
  rintro D60 ao K_ ⟨p,k,c,hk_,rfl⟩ ae
  have C:sat g _ (pt D60 (Obj.deferred (some []))::_):=ae
  refine go [rd 9 0 2 0 1 C] ?_
  have D:sat g _ (Sl 39 3 p k c (fl eO (Ch E vn))::_):=AI C.c.t7 (fun _ hh_=>by rw[show ((Df E vn ((Ac E).length)):List Ky)=(Ch E vn) from VX E vn] at hh_;exact hh_)
  have F:=Ca B6 dc D
  have af:sat g _ (Sl 39 3 p ((Ch E vn).length) c (fl eO (Ch E vn))::_):=AI D (fun _ hh_=>by rw[F];exact hh_)
  refine LM (.tuple #[.slice p k c,iV 0]) af.a.t7 (fun _ _=> []) (fun _ ag=> ?_) [] []
  exact⟨_,_,rfl,⟨p,c,by rw[F],rfl⟩,ag.a.e.t7.f.b.b.t3⟩
 intro _ _ _ _ _ _ hf_;exact hf_.elim
theorem mY(b n:Nat)(A:List AM)(E:Tm)(RL:List Rs)(hx hy:Int)(h: ∃e∈Ac E,e.h=(hx,hy)):HT prog 278 [pV b,.agg #[iV hx,uV hy]] [BD b n A E RL] (fun v K=>v=bT∧K= [BD b n A E RL]):=
 (T6 b n A E RL hx hy).mono fun v K hP=>by
  rcases hP with ⟨hv,a,hK⟩|⟨hv,a,hK⟩
  · exact⟨hv,hK⟩
  · obtain⟨e,he,h2⟩:=h;exact absurd h2 (a e he)
theorem X9(b n:Nat)(A:List AM)(E:Tm)(RL:List Rs)(hx hy:Int)(h: ∀e∈Ac E,e.h≠(hx,hy)):HT prog 278 [pV b,.agg #[iV hx,uV hy]] [BD b n A E RL] (fun v K=>v=bF∧K= [BD b n A E RL]):=
 (T6 b n A E RL hx hy).mono fun v K hP=>by
  rcases hP with ⟨hv,a,hK⟩|⟨hv,a,hK⟩
  · obtain⟨e,he,a⟩:=a;exact absurd a (h e he)
  · exact⟨hv,hK⟩
theorem Nf{p:Ky}{a b c:Int}(h: ¬(p.1=a∧p.2.1=b∧p.2.2=c)):p≠(a,b,c):=by
 rintro rfl
 exact h ⟨rfl,rfl,rfl⟩
theorem Ng{L:List Rs}{k:Nat}{P:Rs→Prop}{x:Rs}(h: ∀(j:Nat) (o:Rs),j<k→L[j]? =some o→P o)(hx:L[k]? =some x)(hp:P x): ∀(j:Nat) (o:Rs),j<k+1→L[j]? =some o→P o:=fun j o hj ho=>by
 rcases Nat.lt_succ_iff_lt_or_eq.1 hj with h1|rfl
 · exact h j o h1 ho
 · rw[hx] at ho
   obtain rfl:=Option.some.inj ho
   exact hp
theorem YA{L:List Rs}{k:Nat}{P:Rs→Prop}(h: ∀(j:Nat) (o:Rs),j<k→L[j]? =some o→P o)(hk:L.length≤k): ∀o∈L,P o:=fun o ho=>by
 obtain⟨j,hj⟩:=List.getElem?_of_mem ho
 exact h j o (Nat.lt_of_lt_of_le (List.getElem?_eq_some_iff.1 hj).1 hk) hj
theorem JE{n:Nat}{l:Fr}{o:Oper}{x y:Operand}(a b c d c1 c2:Int)(ho:o.op= .binOp .eql 48 x y 48)(hx:fe n l x= .agg #[iV a,iV b,uV c])(hy:fe n l y= .agg #[iV d,iV c1,uV c2])(h:a=d∧b=c1∧c=c2)(w:World):(execOp (fe n l) o).run prog w= .ok (.value (bT)) w:=by
 obtain⟨rfl,rfl,rfl⟩:=h
 simp[execOp,ho,hx,hy,go_sem]
theorem DL{n:Nat}{l:Fr}{o:Oper}{x y:Operand}(b c d e c1 c2:Int)(ho:o.op= .binOp .eql 48 x y 48)(hx:fe n l x= .agg #[iV b,iV c,uV d])(hy:fe n l y= .agg #[iV e,iV c1,uV c2])(h: ¬(b=e∧c=c1∧d=c2))(w:World):(execOp (fe n l) o).run prog w= .ok (.value (bF)) w:=by
 by_cases a:b=e
 · skip
   by_cases f:c=c1
   · skip
     by_cases i:d=c2
     · exact absurd ⟨a,f,i⟩ h
     · simp[execOp,ho,hx,hy,go_sem,a,f,i]
   · simp[execOp,ho,hx,hy,go_sem,a,f]
 · simp[execOp,ho,hx,hy,go_sem,a]
theorem tR(b:Nat)(u1 u2 u3 d e f i:Int)(tg:List UInt8)(x y z:Int)(h:u1=x∧u2=y∧u3=z):HQ 277 [.agg #[iV u1,iV u2,uV u3,iV d,iV e,iV f,iV i,sV tg],pV b] [Cl b [iV x,iV y,uV z] 48] (bT) [Cl b [iV x,iV y,uV z] 48]:=by
 refine AC func277 ntmps277 fun g w0 R h0=>g0<|nP 226 [iV u1,iV u2,uV u3,iV d,iV e,iV f,iV i,sV tg] h0 (fun _ _ c=> ?_)
 refine go [rd 1 1 0 0 3 c,rd 1 2 1 0 3 c,.s 1 3]<|AS (bT) (JE (x:=Ot 5) (y:=Ot 6) u1 u2 u3 x y z kr kr kr ⟨om,om,om⟩ _)<|g0 ?_
 exact AD _ [] c.a.t3.b.a.t2
theorem YB(b:Nat)(u1 u2 u3 d e f i:Int)(tg:List UInt8)(x y z:Int)(h: ¬(u1=x∧u2=y∧u3=z)):HQ 277 [.agg #[iV u1,iV u2,uV u3,iV d,iV e,iV f,iV i,sV tg],pV b] [Cl b [iV x,iV y,uV z] 48] (bF) [Cl b [iV x,iV y,uV z] 48]:=by
 refine AC func277 ntmps277 fun g w0 R h0=>g0<|nP 226 [iV u1,iV u2,uV u3,iV d,iV e,iV f,iV i,sV tg] h0 (fun _ _ c=> ?_)
 refine go [rd 1 1 0 0 3 c,rd 1 2 1 0 3 c,.s 1 3] ?_
 by_cases j:u1=x
 ·
  by_cases k:u2=y
  ·
   refine AS (bF) (DL (x:=Ot 5) (y:=Ot 6) u1 u2 u3 x y z kr kr kr om _)<|g0 ?_
   exact AD _ [] c.a.t3.b.a.t2
  refine AS (bF) (DL (x:=Ot 5) (y:=Ot 6) u1 u2 u3 x y z kr kr kr om _)<|g0 ?_
  exact AD _ [] c.a.t3.b.a.t2
 refine AS (bF) (DL (x:=Ot 5) (y:=Ot 6) u1 u2 u3 x y z kr kr kr om _)<|g0 ?_
 exact AD _ [] c.a.t3.b.a.t2
theorem dS(p:Option Addr)(m c b:Nat)(L:List Rs)(x y z:Int)(hm:m≤1000000):HT prog 353 [.slice p m c,.func (Fn.func 277) #[] #[pV b]] [Sl 226 8 p m c (fl DG L),Cl b [iV x,iV y,uV z] 48] (fun v K=>(∃k:Nat,v=iV k∧(∃r∈L,r.out=(x,y,z))∧K= [Sl 226 8 p m c (fl DG L),Cl b [iV x,iV y,uV z] 48])∨(v=iV (-1)∧(∀r∈L,r.out≠(x,y,z))∧K= [Sl 226 8 p m c (fl DG L),Cl b [iV x,iV y,uV z] 48])):=by
 refine AC func353 ntmps353 fun g w0 R q=>g0 ?_
 have u:=Ca Ah dc q
 refine Jc (fun mz_ a w=> ∃k:Nat,∃lr:Fr,mz_=m-k∧(k≤m)∧(∀(j:Nat) (o:Rs),j<k→L[j]? =some o→o.out≠(x,y,z))∧a=mk 19 (([(0,.slice p m c),(1,.func (Fn.func 277) #[] #[pV b]),(7,iV m),(8,iV k)]:Fr)++lr)∧sat g w [Sl 226 8 p m c (fl DG L),Cl b [iV x,iV y,uV z] 48,R]) (m-0) ⟨0,_,rfl,(Nat.zero_le _),(fun j o h _=>absurd h (Nat.not_lt_zero _)),(Ck [.k 0 (.slice p m c),.k 1 (.func (Fn.func 277) #[] #[pV b]),.k 7 (iV m),.o 8 (oJ .i64 0 (0:Int))]),q⟩ ?_
 rintro H I J ⟨k,M,rfl,hk,hall_,rfl,e⟩
 refine ga<|go [.s 2 0] ?_
 by_cases t:(k:Int)<(m:Int)
 ·
  obtain⟨l,i⟩:=Av (j:=0) e rfl om
  refine go [.v 2 0 (oT _ t),.s 4 3]<|AS (.pointer (some ⟨l,k*8,none⟩)) (Ft (Ot 12) (Ot 13) p l 0 (k:Int) m c underlying175 8 k i (k*8)) ?_
  obtain⟨d,f⟩: ∃x,L[k]? =some x:=⟨_,List.getElem?_eq_getElem (by rw[u];omega)⟩
  refine go [.r 4 4 l (k*8) [iV d.out.1,iV d.out.2.1,uV d.out.2.2,iV d.st,iV d.why,iV d.tr,iV d.nx,sV d.tag] ⟨CM 0 e rfl i Ah 0 (iV d.out.1) f (k*8),CM 0 e rfl i Ah 1 (iV d.out.2.1) f (k*8+1),CM 0 e rfl i Ah 2 (uV d.out.2.2) f (k*8+2),CM 0 e rfl i Ah 3 (iV d.st) f (k*8+3),CM 0 e rfl i Ah 4 (iV d.why) f (k*8+4),CM 0 e rfl i Ah 5 (iV d.tr) f (k*8+5),CM 0 e rfl i Ah 6 (iV d.nx) f (k*8+6),CM 0 e rfl i Ah 7 (sV d.tag) f (k*8+7),trivial⟩] ?_
  by_cases N:d.out.1=x
  ·
   by_cases O:d.out.2.1=y
   ·
    by_cases P:d.out.2.2=z
    ·
     refine AF call277 (tR b d.out.1 d.out.2.1 d.out.2.2 d.st d.why d.tr d.nx d.tag x y z om) e.a.t3 fun _ A=>g0<|up<|g0 ?_
     exact en (iV k) [] ⟨_,[Sl 226 8 p m c (fl DG L),Cl b [iV x,iV y,uV z] 48],rfl,(.inl ⟨k,rfl,⟨d,List.mem_of_getElem? f,Prod.ext (show d.out.1=x from by omega) (Prod.ext (show d.out.2.1=y from by omega) (show d.out.2.2=z from by omega))⟩,rfl⟩),A.a.t3⟩
    refine AF call277 (YB b d.out.1 d.out.2.1 d.out.2.2 d.st d.why d.tr d.nx d.tag x y z om) e.a.t3 fun _ B=>go [.v 6 0 (CD ((k:Int)+1))] ?_
    refine ET ?_
    have C:=B.a.t3
    change ∃n',n'<_∧_
    refine⟨(m-(k+1)),by omega,(k+1),_,rfl,om,(Ng hall_ f (Nf om)),(Ck [.k 0 (.slice p m c),.k 1 (.func (Fn.func 277) #[] #[pV b]),.k 7 (iV m),.o 8 (oJ .i64 ((k:Int)+1) (((k+1):Nat):Int))]),C⟩
   refine AF call277 (YB b d.out.1 d.out.2.1 d.out.2.2 d.st d.why d.tr d.nx d.tag x y z om) e.a.t3 fun _ D=>go [.v 6 0 (CD ((k:Int)+1))] ?_
   refine ET ?_
   have E:=D.a.t3
   change ∃n',n'<_∧_
   refine⟨(m-(k+1)),by omega,(k+1),_,rfl,om,(Ng hall_ f (Nf om)),(Ck [.k 0 (.slice p m c),.k 1 (.func (Fn.func 277) #[] #[pV b]),.k 7 (iV m),.o 8 (oJ .i64 ((k:Int)+1) (((k+1):Nat):Int))]),E⟩
  refine AF call277 (YB b d.out.1 d.out.2.1 d.out.2.2 d.st d.why d.tr d.nx d.tag x y z om) e.a.t3 fun _ F=>go [.v 6 0 (CD ((k:Int)+1))] ?_
  refine ET ?_
  have G:=F.a.t3
  change ∃n',n'<_∧_
  refine⟨(m-(k+1)),by omega,(k+1),_,rfl,om,(Ng hall_ f (Nf om)),(Ck [.k 0 (.slice p m c),.k 1 (.func (Fn.func 277) #[] #[pV b]),.k 7 (iV m),.o 8 (oJ .i64 ((k:Int)+1) (((k+1):Nat):Int))]),G⟩
 refine go [.v 2 0 (oF _ t)]<|up<|g0 ?_
 exact en (iV (-1)) [] ⟨_,[Sl 226 8 p m c (fl DG L),Cl b [iV x,iV y,uV z] 48],rfl,(.inr ⟨rfl,YA (k:=k) hall_ om,rfl⟩),e⟩
theorem kT(p:Option Addr)(m c b:Nat)(L:List Rs)(x y z:Int)(hm:m≤1000000):HT prog 276 [.slice p m c,.func (Fn.func 277) #[] #[pV b]] [Sl 226 8 p m c (fl DG L),Cl b [iV x,iV y,uV z] 48] (fun v K=>(v= bT∧(∃r∈L,r.out=(x,y,z))∧K= [Sl 226 8 p m c (fl DG L),Cl b [iV x,iV y,uV z] 48])∨(v= bF∧(∀r∈L,r.out≠(x,y,z))∧K= [Sl 226 8 p m c (fl DG L),Cl b [iV x,iV y,uV z] 48])):=by
 refine AC func276 ntmps276 fun g w0 R h0=>g0<|cP call353 (dS p m c b L x y z om) h0 ?_
 rintro v K _ (⟨e,rfl,a,rfl⟩|⟨rfl,a,rfl⟩) d
 ·
  have f:=CW d
  refine go [.v 1 3 (oT ((e:Int)≥0))] ?_
  exact en (bT) [] ⟨_,[Sl 226 8 p m c (fl DG L),Cl b [iV x,iV y,uV z] 48],rfl,(.inl ⟨rfl,a,rfl⟩),f⟩
 have i:=CW d
 refine g0 ?_
 exact en (bF) [] ⟨_,[Sl 226 8 p m c (fl DG L),Cl b [iV x,iV y,uV z] 48],rfl,(.inr ⟨rfl,a,rfl⟩),i⟩
theorem mZ(p:Option Addr)(m c b:Nat)(L:List Rs)(x y z:Int)(h: ∃r∈L,r.out=(x,y,z))(hm:m≤1000000):HT prog 276 [.slice p m c,.func (Fn.func 277) #[] #[pV b]] [Sl 226 8 p m c (fl DG L),Cl b [iV x,iV y,uV z] 48] (fun v K=>v=bT∧K= [Sl 226 8 p m c (fl DG L),Cl b [iV x,iV y,uV z] 48]):=
 (kT p m c b L x y z hm).mono fun v K hP=>by
  rcases hP with ⟨hv,a,hK⟩|⟨hv,a,hK⟩
  · exact⟨hv,hK⟩
  · obtain⟨e,he,h2⟩:=h;exact absurd h2 (a e he)
theorem R4(p:Option Addr)(m c b:Nat)(L:List Rs)(x y z:Int)(h: ∀r∈L,r.out≠(x,y,z))(hm:m≤1000000):HT prog 276 [.slice p m c,.func (Fn.func 277) #[] #[pV b]] [Sl 226 8 p m c (fl DG L),Cl b [iV x,iV y,uV z] 48] (fun v K=>v=bF∧K= [Sl 226 8 p m c (fl DG L),Cl b [iV x,iV y,uV z] 48]):=
 (kT p m c b L x y z hm).mono fun v K hP=>by
  rcases hP with ⟨hv,a,hK⟩|⟨hv,a,hK⟩
  · obtain⟨e,he,a⟩:=a;exact absurd a (h e he)
  · exact⟨hv,hK⟩
theorem YC(b n:Nat)(A:List AM)(E:Tm)(RL:List Rs)(x y z:Int)(k:0≤z)(l:z≤4294967295)(ho: ¬(1≤x∧x≤3∧0≤y∧y≤255∧1≤z)):HQ 282 [pV b,.agg #[iV x,iV y,uV z]] [BD b n A E RL] (.tuple #[iV 0,iV 2]) [BD b n A E RL]:=by
 refine AC func282 ntmps282 fun g w0 R h0=>g0<|nP 39 [iV x,iV y,uV z] h0 (fun _ _ d=> ?_)
 have f:=d.a.t3
 refine go [rd 1 1 0 0 3 d]<|AF call283 (MU b n A E RL x y z om om om) f fun _ i=>g0<|nP 228 [iV 0,iV 0,uV 0,iV 0,iV 0,uV 0] i (fun _ _ j=> ?_)
 refine sA [iV 0,iV 0,uV 0,iV 0,iV 0,uV 0] j fun _ e=>go [rd 2 1 0 3 1 e] ?_
 exact AD _ [] e.a.t4.c.a.t2
theorem VZ(b n:Nat)(A:List AM)(E:Tm)(RL:List Rs)(x y z:Int)(k:0≤z)(l:z≤4294967295)(ho:1≤x∧x≤3∧0≤y∧y≤255∧1≤z)(hg_:Aa E y=none):HQ 282 [pV b,.agg #[iV x,iV y,uV z]] [BD b n A E RL] (.tuple #[iV 0,iV 7]) [BD b n A E RL]:=by
 refine AC func282 ntmps282 fun g w0 R h0=>g0<|nP 39 [iV x,iV y,uV z] h0 (fun _ _ d=> ?_)
 have f:=d.a.t3
 refine go [rd 1 1 0 0 3 d]<|AF call283 (KK b n A E RL x y z om om om hg_) f fun _ i=>g0<|nP 228 [iV 0,iV 0,uV 0,iV 0,iV 0,uV 0] i (fun _ _ j=> ?_)
 refine sA [iV 0,iV 0,uV 0,iV 0,iV 0,uV 0] j fun _ e=>go [rd 2 1 0 3 1 e] ?_
 exact AD _ [] e.a.t4.c.a.t2
theorem dT(b n:Nat)(A:List AM)(E:Tm)(RL:List Rs)(x y z:Int)(e:Ety)(m:0≤z)(o:z≤4294967295)(ho:1≤x∧x≤3∧0≤y∧y≤255∧1≤z)(hg_:Aa E y=some e)(hd_:e.d.1=x∧e.d.2.1=y∧e.d.2.2=z):HQ 282 [pV b,.agg #[iV x,iV y,uV z]] [BD b n A E RL] (.tuple #[iV e.num,iV 0]) [BD b n A E RL]:=by
 refine AC func282 ntmps282 fun g w0 R h0=>g0<|nP 39 [iV x,iV y,uV z] h0 (fun _ _ f=> ?_)
 have j:=f.a.t3
 refine go [rd 1 1 0 0 3 f]<|AF call283 (Pk b n A E RL x y z e om om om hg_ om) j fun _ k=>g0<|nP 228 [iV 0,iV 0,uV 0,iV 0,iV 0,uV 0] k (fun _ _ l=> ?_)
 refine sA [iV e.d.1,iV e.d.2.1,uV e.d.2.2,iV e.num,iV e.h.1,uV e.h.2] l fun _ i=>go [rd 2 1 0 3 1 i] ?_
 exact AD _ [] i.a.t4.c.a.t2
theorem Va(b n:Nat)(A:List AM)(E:Tm)(RL:List Rs)(x y z:Int)(e:Ety)(m:0≤z)(o:z≤4294967295)(ho:1≤x∧x≤3∧0≤y∧y≤255∧1≤z)(hg_:Aa E y=some e)(hd_: ¬(e.d.1=x∧e.d.2.1=y∧e.d.2.2=z)):HQ 282 [pV b,.agg #[iV x,iV y,uV z]] [BD b n A E RL] (.tuple #[iV 0,iV 7]) [BD b n A E RL]:=by
 refine AC func282 ntmps282 fun g w0 R h0=>g0<|nP 39 [iV x,iV y,uV z] h0 (fun _ _ f=> ?_)
 have j:=f.a.t3
 refine go [rd 1 1 0 0 3 f]<|AF call283 (KL b n A E RL x y z e om om om hg_ om) j fun _ k=>g0<|nP 228 [iV 0,iV 0,uV 0,iV 0,iV 0,uV 0] k (fun _ _ l=> ?_)
 refine sA [iV 0,iV 0,uV 0,iV 0,iV 0,uV 0] l fun _ i=>go [rd 2 1 0 3 1 i] ?_
 exact AD _ [] i.a.t4.c.a.t2
theorem dU(n:Nat)(gn:Int)(hn:1≤n∧n≤256)(hgn:1≤gn∧gn≤4294967295):HT prog 31 [iV n,uV gn] [] (fun v K=> ∃b:Nat,v= .tuple #[pV b,iV 0]∧K= [BD b n (List.replicate n (0,gn)) [] []]):=by
 refine AC func31 ntmps31 fun g w0 R h0=>g0<|cP call67 (Hi n om gn om) h0 ?_
 rintro v K _ (⟨e,rfl,rfl⟩) f
 have i:=B3 f
 refine g0 ?_
 refine AH ?_
 refine Bw (t:=174) (d:=18) kI vE kr kr rfl i ?_
 intro j _ k
 refine B1<|g0<|nP 177 [pV e,.map (some j),.slice none 0 0] k (fun a p l=> ?_)
 refine g0 ?_
 have m:sat g _ (Sl 226 8 none 0 0 (fl DG [])::_):=CP 226 8 l
 have o:sat g _ (BD a n (List.replicate n (0,gn)) [] []::_):=AV (Xz List.nodup_nil) dc (by first|rfl |omega) m.b.c.c.t5
 exact en _ [] ⟨_,_,rfl,⟨a,rfl,rfl⟩,o⟩
theorem R5(b n:Nat)(A:List AM)(E:Tm)(RL:List Rs)(x y z:Int)(k:0≤z)(l:z≤4294967295)(ho: ¬(1≤x∧x≤3∧0≤y∧y≤255∧1≤z)):HQ 288 [pV b,.agg #[iV x,iV y,uV z]] [BD b n A E RL] (.tuple #[iV 0,bF,iV 2]) [BD b n A E RL]:=by
 refine AC func288 ntmps288 fun g w0 R h0=>g0<|nP 39 [iV x,iV y,uV z] h0 (fun _ _ d=> ?_)
 have e:=d.a.t3
 refine go [rd 1 1 0 0 3 d]<|AF call283 (MU b n A E RL x y z om om om) e fun _ f=>g0<|nP 228 [iV 0,iV 0,uV 0,iV 0,iV 0,uV 0] f (fun _ _ i=> ?_)
 refine sA [iV 0,iV 0,uV 0,iV 0,iV 0,uV 0] i fun _ j=>g0 ?_
 exact AD _ [] j.a.t4.c.a.t2
theorem Pm(b n:Nat)(A:List AM)(E:Tm)(RL:List Rs)(x y z:Int)(k:0≤z)(l:z≤4294967295)(ho:1≤x∧x≤3∧0≤y∧y≤255∧1≤z)(hg_:Aa E y=none):HQ 288 [pV b,.agg #[iV x,iV y,uV z]] [BD b n A E RL] (.tuple #[iV 0,bF,iV 7]) [BD b n A E RL]:=by
 refine AC func288 ntmps288 fun g w0 R h0=>g0<|nP 39 [iV x,iV y,uV z] h0 (fun _ _ d=> ?_)
 have e:=d.a.t3
 refine go [rd 1 1 0 0 3 d]<|AF call283 (KK b n A E RL x y z om om om hg_) e fun _ f=>g0<|nP 228 [iV 0,iV 0,uV 0,iV 0,iV 0,uV 0] f (fun _ _ i=> ?_)
 refine sA [iV 0,iV 0,uV 0,iV 0,iV 0,uV 0] i fun _ j=>g0 ?_
 exact AD _ [] j.a.t4.c.a.t2
theorem Pn(b n:Nat)(A:List AM)(E:Tm)(RL:List Rs)(x y z:Int)(e:Ety)(m:0≤z)(o:z≤4294967295)(ho:1≤x∧x≤3∧0≤y∧y≤255∧1≤z)(hg_:Aa E y=some e)(hd_: ¬(e.d.1=x∧e.d.2.1=y∧e.d.2.2=z)):HQ 288 [pV b,.agg #[iV x,iV y,uV z]] [BD b n A E RL] (.tuple #[iV 0,bF,iV 7]) [BD b n A E RL]:=by
 refine AC func288 ntmps288 fun g w0 R h0=>g0<|nP 39 [iV x,iV y,uV z] h0 (fun _ _ f=> ?_)
 have i:=f.a.t3
 refine go [rd 1 1 0 0 3 f]<|AF call283 (KL b n A E RL x y z e om om om hg_ om) i fun _ j=>g0<|nP 228 [iV 0,iV 0,uV 0,iV 0,iV 0,uV 0] j (fun _ _ k=> ?_)
 refine sA [iV 0,iV 0,uV 0,iV 0,iV 0,uV 0] k fun _ l=>g0 ?_
 exact AD _ [] l.a.t4.c.a.t2
theorem Vb(b n:Nat)(A:List AM)(E:Tm)(RL:List Rs)(x y z:Int)(e:Ety)(u:0≤z)(B:z≤4294967295)(ho:1≤x∧x≤3∧0≤y∧y≤255∧1≤z)(hg_:Aa E y=some e)(hd_:e.d.1=x∧e.d.2.1=y∧e.d.2.2=z)(q:Nat)(s:AM)(hs:A[q]? =some s)(hs_:y=(q:Int)∧s.1=1∧s.2=z)(hnum:1≤e.num∧e.num≤(RL.length:Int)):HQ 288 [pV b,.agg #[iV x,iV y,uV z]] [BD b n A E RL] (.tuple #[iV e.num,.bool (decide ((Ch (C0 E y) e.num).length=0)),iV 0]) [BD b n (Ak A q z) (C0 E y) RL]:=by
 refine AC func288 ntmps288 fun g w0 R h0=>g0<|nP 39 [iV x,iV y,uV z] h0 (fun _ _ f=> ?_)
 have l:=f.a.t3
 refine go [rd 1 1 0 0 3 f]<|AF call283 (Pk b n A E RL x y z e om om om hg_ om) l fun _ m=>g0<|nP 228 [iV 0,iV 0,uV 0,iV 0,iV 0,uV 0] m (fun _ _ o=> ?_)
 refine sA [iV e.d.1,iV e.d.2.1,uV e.d.2.2,iV e.num,iV e.h.1,uV e.h.2] o fun _ i=> ?_
 have p:=i.a.t4
 refine go [rd 4 1 2 0 3 i]<|AF call308 (X7 b n A E RL x y z om om q s hs om) p fun _ j=>go [rd 5 2 1 3 1 j]<|cP call307 (EI b n (Ak A q z) (C0 E y) RL e.num om) j ?_
 rintro v K _ (⟨C,D,rfl,rfl⟩) t
 have c:=CW t
 refine go [rd 6 1 2 3 1 c,.s 6 4] ?_
 by_cases k:(((Ch (C0 E y) e.num).length:Nat):Int)=0
 ·
  refine go [.v 6 4 (G9 _ _ k)] ?_
  exact en (.tuple #[iV e.num,bT,iV 0]) [] ⟨_,_,rfl,⟨by rw[decide_eq_true om],rfl⟩,c.d.a.t2⟩
 refine go [.v 6 4 (DR _ _ k)] ?_
 exact en (.tuple #[iV e.num,bF,iV 0]) [] ⟨_,_,rfl,⟨by rw[decide_eq_false om],rfl⟩,c.d.a.t2⟩
end Go.Proofs.YtcgkoffnknpgjaaGreatDoor
