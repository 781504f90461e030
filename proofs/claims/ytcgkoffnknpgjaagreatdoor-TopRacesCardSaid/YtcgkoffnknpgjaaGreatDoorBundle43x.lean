/-
  The states of TopRaces, part by part. No program in sight.
-/
import Derived.Test.YtcgkoffnknpgjaaGreatDoorBundle42x
namespace Go.Proofs.YtcgkoffnknpgjaaGreatDoor
set_option linter.unusedVariables false
set_option linter.unusedSimpArgs false
open Tryz
set_option maxHeartbeats 4000000
section
def rQ(fi st y:Int):Rs:=⟨(1,((0:Nat):Int),fi),st,y,0,0,[120]⟩
def aQ(N:Nat)(fi:Int):List AM:=List.replicate N (0,fi)
def bQ(N:Nat)(fi:Int):List AM:=(List.replicate N (0,fi)).set 0 (0,fi+1)
def Ra(fi:Int):Ts:=⟨aQ 256 fi,[],[]⟩
def G1(fi:Int):Ts:=⟨Ap (aQ 256 fi),[(((0:Nat):Int),⟨(1,((0:Nat):Int),fi),1,(((0:Nat):Int),fi)⟩)],[rQ fi 1 0]⟩
def Wt(fi:Int):Ts:=⟨bQ 256 fi,[],[rQ fi 1 0]⟩
def LG(fi y:Int):Ts:=⟨bQ 256 fi,[],[rQ fi 2 y]⟩
def FM(fi y:Int):Ts:=⟨bQ 256 fi,[],[rQ fi 3 y]⟩
def xQ(k z v fi:Int):Xs:=(k,z,v)::List.replicate 63 (0,fi,0)
def F2(fi:Int):Wst:=⟨xQ 1 fi 5 fi,List.replicate 64 (0,fi,0),List.replicate 64 (0,fi,0),[],[],0⟩
def G2(fi y:Int):Wst:=⟨xQ 0 (fi+1) 0 fi,List.replicate 64 (0,fi,0),List.replicate 64 (0,fi,0),[],[⟨0,(1,((0:Nat):Int),fi),y,1⟩],0⟩
def eQ(fi:Int):E3:= [((1,((0:Nat):Int),fi),([120], -1,0,0,2))]
def LJ(fi y:Int):E3:= [((1,((0:Nat):Int),fi),([120],0,0,y,3))]
theorem Uy:0≤Ag [120]:=Int.le_of_eq tag_x.symm
theorem Uz:0≤ -(Ag [120]):=by rw[tag_x];decide
def pN(n p:Nat):Nat:=if p=0 then 1 else n*2+3
theorem lL(n p:Nat):1≤pN n p∧pN n p≤n*2+3:=by
 unfold pN
 split<;>omega
structure FiQ (fi:Int):Prop where
 lo:1≤fi
 hi:fi≤4294967293
section
variable {fi y : Int} {N : Nat}
theorem lM(hN:1≤N): ∃T,AJ 0 (aQ N fi) 0=(0,fi)::T:=by
 obtain⟨T,hT⟩:=K9 (aQ N fi) 0 0 fi (by unfold aQ;rw[List.getElem?_replicate,if_pos om]) (fun a x ha=>by omega)
 exact⟨T,by rw[hT]⟩
theorem Gm(hN:1≤N):By (aQ N fi)=some (0,fi):=by
 obtain⟨T,hT⟩:=lM (fi:=fi) hN
 unfold By
 rw[hT]
 rfl
theorem U0(hN:1≤N):1≤(AJ 0 (aQ N fi) 0).length:=by
 obtain⟨T,hT⟩:=lM (fi:=fi) hN
 rw[hT,List.length_cons]
 omega
theorem U1(hN:1≤N):Ap (aQ N fi)=(aQ N fi).set 0 (1,fi):=(Gi (Gm hN)).2.1
theorem jS(hf:FiQ fi)(hN:1≤N):Ak (Ap (aQ N fi)) 0 fi=bQ N fi:=by
 have h1:=hf.hi
 rw[U1 hN]
 unfold Ak bQ aQ
 rw[if_pos om,List.set_set]
theorem lN(hf:FiQ fi)(hy:1≤y∧y≤3):FZ (rQ fi 2 y)=0∧FZ (rQ fi 3 y)=0:=by
 have h1:=hf.lo
 have h0:=hf.hi
 unfold FZ DH rQ
 have h2:CH 1 ((0:Nat):Int) fi 2 y 0 0:=⟨by omega,.inr (.inl ⟨rfl,by omega,by omega,by omega,by omega,by omega,by omega⟩)⟩
 have h3:CH 1 ((0:Nat):Int) fi 3 y 0 0:=⟨by omega,.inr (.inr ⟨.inl rfl,by omega,by omega,by omega,by omega,rfl⟩)⟩
 exact⟨(if_pos h2).trans tag_x,(if_pos h3).trans tag_x⟩
theorem wZ(hf:FiQ fi):Nh (1,((0:Nat):Int),fi) [120]=0:=by
 have h1:=hf.lo
 have h0:=hf.hi
 unfold Nh DH
 have h2:CH 1 ((0:Nat):Int) fi 1 0 0 0:=⟨by omega,.inl ⟨rfl,rfl,rfl,rfl⟩⟩
 exact(if_pos h2).trans tag_x
theorem xA(hf:FiQ fi):JU (((0:Nat):Int),fi):=by
 have h1:=hf.lo
 unfold JU
 simp only[]
 omega
theorem rO(hf:FiQ fi):Dv (Ra fi) (1,((0:Nat):Int),fi) [120] (((0:Nat):Int),fi)=0:=by
 unfold Dv
 rw[if_neg (by rw[wZ hf];decide),if_neg (by intro a;exact a (xA hf)),if_neg ?_,if_neg ?_]
 · rintro(a|a)
   · exact absurd a (show ¬(0:Nat)≥2000 by omega)
   · have:By (Ra fi).A=some _:=Gm om
     rw[this] at a
     cases a
 · rintro(a|⟨e,he,_⟩)
   · obtain⟨r,hr,_⟩:=a
     cases hr
   · rw[show (Ra fi).E= [] from rfl,Q3] at he
     cases he
theorem zV(hf:FiQ fi):FF (Ra fi) (1,((0:Nat):Int),fi) [120] (((0:Nat):Int),fi)=(1,((0:Nat):Int),fi):=by
 unfold FF
 rw[if_pos (rO hf)]
 unfold nA
 rw[show By (Ra fi).A=some _ from Gm om]
theorem zW(hf:FiQ fi):FE (Ra fi) (1,((0:Nat):Int),fi) [120] (((0:Nat):Int),fi)=G1 fi:=by
 unfold FE
 rw[if_pos (rO hf)]
 unfold YF
 simp only[show By (Ra fi).A=some (0,fi) from Gm om]
 unfold G1
 rw[U1 om]
 rfl
theorem zX:Aa (G1 fi).E (1,((0:Nat):Int),fi).2.1=some ⟨(1,((0:Nat):Int),fi),1,(((0:Nat):Int),fi)⟩:=by
 unfold G1
 simp only[Aa]
 exact if_pos trivial
theorem aU(hf:FiQ fi):EO (1,((0:Nat):Int),fi):=by
 have h1:=hf.lo
 unfold EO
 simp only[]
 omega
theorem M3(hf:FiQ fi):Ba (G1 fi) (1,((0:Nat):Int),fi)=0∧CR (G1 fi) (1,((0:Nat):Int),fi)=⟨(1,((0:Nat):Int),fi),1,(((0:Nat):Int),fi)⟩:=T7 (aU hf) zX rfl
theorem aV(hf:FiQ fi):(CR (G1 fi) (1,((0:Nat):Int),fi)).num=1:=by rw[(M3 hf).2]
theorem aW(hf:FiQ fi):Ho (G1 fi) (1,((0:Nat):Int),fi)=Wt fi:=by
 unfold Ho Wt
 have h1:(G1 fi).A=Ap (aQ 256 fi):=rfl
 have h2:(1,((0:Nat):Int),fi).2.1.toNat=0:=rfl
 rw[h1,h2,jS hf om]
 have h4:C0 (G1 fi).E (1,((0:Nat):Int),fi).2.1= []:=by
  unfold G1
  simp only[C0]
  exact if_pos trivial
 rw[h4]
 rfl
theorem M4(hf:FiQ fi):Dw (G1 fi) (1,((0:Nat):Int),fi)=Wt fi∧EC (G1 fi) (1,((0:Nat):Int),fi)=true:=by
 refine⟨?_,?_⟩
 · unfold Dw
   rw[if_pos (M3 hf).1,aW hf]
 · unfold EC
   rw[decide_eq_true]
   refine⟨(M3 hf).1,?_⟩
   rw[aW hf,show (Wt fi).E= [] from rfl,HD]
   rfl
theorem q_get:AZ (Wt fi) 1=rQ fi 1 0∧nE (Wt fi) 1=0:=⟨rfl,if_pos ⟨by omega,by show (1:Int)≤((1:Nat):Int);omega⟩⟩
theorem M5(hf:FiQ fi)(hy:1≤y∧y≤3):CS (Wt fi) 1 (rQ fi 2 y)=0∧Cc (Wt fi) 1 (rQ fi 2 y)=LG fi y:=by
 have he:CS (Wt fi) 1 (rQ fi 2 y)=0:=by
  unfold CS
  rw[if_neg (by rw[q_get.2];decide),if_neg (by rw[(lN hf hy).1];decide),if_neg (by rw[q_get.1];rintro(a|a)<;>exact a rfl),if_neg ?_]
  rintro⟨_,a⟩
  rw[show (Wt fi).E= [] from rfl,HD] at a
  exact absurd a dc
 refine⟨he,?_⟩
 unfold Cc
 rw[if_pos he]
 rfl
theorem qd_get:AZ (LG fi y) 1=rQ fi 2 y∧nE (LG fi y) 1=0:=⟨rfl,if_pos ⟨by omega,by show (1:Int)≤((1:Nat):Int);omega⟩⟩
theorem rP(hf:FiQ fi)(hy:1≤y∧y≤3):Cc (LG fi y) 1 (rQ fi 3 y)=FM fi y:=by
 have he:CS (LG fi y) 1 (rQ fi 3 y)=0:=by
  unfold CS
  rw[if_neg (by rw[qd_get.2];decide),if_neg (by rw[(lN hf hy).2];decide),if_neg (by rw[qd_get.1];rintro(a|a)<;>exact a rfl),if_neg ?_]
  rintro⟨_,a⟩
  rw[show (LG fi y).E= [] from rfl,HD] at a
  exact absurd a dc
 unfold Cc
 rw[if_pos he]
 rfl
theorem jT(hf:FiQ fi):Ba (FM fi y) (1,((0:Nat):Int),fi)=7:=(T8 (aU hf) (fun e he=>by cases he)).1
theorem aX{bt:Int}(hb:1≤bt):Bo (LG fi y) 0 bt= [1]:=by
 have h2:AT (LG fi y).R 2= [1]:=rfl
 unfold Bo Bv
 rw[h2]
 show (List.takeWhile (fun n=>decide (H2 (LG fi y) n≤0)) [(1:Int)]).take bt.toNat=_
 have h1:H2 (LG fi y) 1=0:=rfl
 rw[List.takeWhile_cons,h1]
 show ([(1:Int)]).take bt.toNat=_
 exact List.take_of_length_le (by simp only[List.length_cons,List.length_nil];omega)
theorem rR{bt:Int}:Bo (G1 fi) 0 bt= []:=by
 have h2:AT (G1 fi).R 2= []:=rfl
 unfold Bo Bv
 rw[h2,show WL (G1 fi) []= [] from rfl,List.takeWhile_nil,List.take_nil]
theorem aY{bt:Int}:Bo (FM fi y) 0 bt= []:=by
 have h2:AT (FM fi y).R 2= []:=rfl
 unfold Bo Bv
 rw[h2,show WL (FM fi y) []= [] from rfl,List.takeWhile_nil,List.take_nil]
theorem aZ:Aa (eQ fi) (1,((0:Nat):Int),fi)=some ([120], -1,0,0,2):=by
 unfold eQ
 simp only[Aa]
 exact if_pos trivial
theorem bA:Au (eQ fi) (1,((0:Nat):Int),fi) ([120],0,0,y,3)=LJ fi y:=by
 unfold eQ LJ
 simp only[Au]
 exact if_pos trivial
theorem jU(k:Nat)(fi:Int):As (List.replicate k (0,fi,0))=aQ k fi:=by
 unfold As aQ
 rw[List.map_replicate]
 rfl
theorem O0:P1 (List.replicate 64 (0,fi,0))=some (0,fi):=by
 have h:=Gm (N:=64) (fi:=fi) om
 unfold By at h
 unfold P1
 rw[jU]
 exact h
theorem bB:DP 1 5:= .inl ⟨rfl,by omega,by omega⟩
theorem bC:Cs (Fz fi) 1 5=0:=by
 have h2:GG (Fz fi) 1 5=0:=by
  unfold GG
  rw[if_neg (by rintro⟨h,_⟩;cases h),if_neg (by rintro⟨h,_⟩;cases h),if_neg ?_]
  rw[show (Fz fi).tab 1=List.replicate 64 (0,fi,0) from rfl,O0]
  intro h
  cases h
 unfold Cs
 rw[if_neg (fun h=>h bB),if_neg (by rw[h2];decide)]
 rfl
theorem xB:CX (Fz fi) 1 5=(1,((0:Nat):Int),fi):=by
 unfold CX
 rw[if_pos bC,show (Fz fi).tab 1=List.replicate 64 (0,fi,0) from rfl]
 unfold Yg
 rw[O0]
theorem xC:DY (Fz fi) 1 5=F2 fi:=by
 have h2:GG (Fz fi) 1 5=0:=by
  unfold GG
  rw[if_neg (by rintro⟨h,_⟩;cases h),if_neg (by rintro⟨h,_⟩;cases h),if_neg ?_]
  rw[show (Fz fi).tab 1=List.replicate 64 (0,fi,0) from rfl,O0]
  intro h
  cases h
 unfold DY
 rw[if_neg (fun h=>h.elim (fun h=>h bB) (fun h=>h h2)),if_pos bC,show (Fz fi).tab 1=List.replicate 64 (0,fi,0) from rfl]
 unfold P3
 rw[O0]
 rfl
theorem lO(hf:FiQ fi):CT (1,((0:Nat):Int),fi):=by
 have h1:=hf.lo
 unfold CT
 simp only[]
 omega
theorem bD(hf:FiQ fi)(hy:1≤y∧y≤3):DQ (F2 fi) (1,((0:Nat):Int),fi) y=0:=by
 unfold DQ
 rw[if_neg (fun h=>h.elim (fun h=>h (lO hf)) (fun h=>by omega)),if_neg ?_,show (F2 fi).T.length=0 from rfl,if_neg om]
 intro h
 refine h ⟨lO hf,?_⟩
 rfl
theorem lP(hf:FiQ fi)(hy:1≤y∧y≤3):D3 (F2 fi) (1,((0:Nat):Int),fi) y=1:=by
 unfold D3
 rw[if_pos (bD hf hy)]
 rfl
theorem xD(hf:FiQ fi)(hy:1≤y∧y≤3):C7 (F2 fi) (1,((0:Nat):Int),fi) y=G2 fi y:=by
 have h9:=hf.hi
 unfold C7
 rw[if_neg (by rw[bD hf hy];decide),if_pos (show (F2 fi).q.headD 1=1 from rfl)]
 have h1:GF ((F2 fi).tab (1,((0:Nat):Int),fi).1) (1,((0:Nat):Int),fi)=xQ 0 (fi+1) 0 fi:=by
  show (xQ 1 fi 5 fi).set 0 (Gt fi)=_
  unfold Gt xQ
  rw[if_pos om]
  rfl
 show Wst.mk (GF ((F2 fi).tab (1,((0:Nat):Int),fi).1) (1,((0:Nat):Int),fi)) _ _ _ _ _=_
 rw[h1]
 rfl
theorem bE(c:Cf)(hf:FiQ fi)(hy:1≤y∧y≤3):FK c 0 (LG fi y,F2 fi) [1]:=fun i n hi=>by
 cases i with
 |zero=>
  rw[List.getElem?_cons_zero] at hi
  obtain rfl:=Option.some.inj hi
  rw[QY]
  refine⟨qd_get.2,?_,?_⟩
  · rw[qd_get.1];rfl
  · rw[qd_get.1]
    exact bD hf hy
 |succ i=>simp at hi
theorem bG(c:Cf)(hf:FiQ fi)(hy:1≤y∧y≤3):EX c 0 (LG fi y,F2 fi) [1]=(FM fi y,G2 fi y):=by
 show iK c 0 (LG fi y,F2 fi) 1=_
 unfold iK
 simp only[qd_get.1]
 rw[show (rQ fi 2 y).out=(1,((0:Nat):Int),fi) from rfl,show (rQ fi 2 y).why=y from rfl,lP hf hy,xD hf hy,if_pos (by unfold Gw;rw[if_neg (by rintro⟨h,_⟩;cases h)])]
 rw[show Ip (rQ fi 2 y) 1 0 (QX c (rQ fi 2 y))=rQ fi 3 y from rfl,rP hf hy]
theorem bH(c:Cf)(hf:FiQ fi)(hy:1≤y∧y≤3):D4 c 0 (LG fi y,F2 fi) [1]= [⟨0,(1,((0:Nat):Int),fi),y,1⟩]:=by
 show [Sq 0 (EG c 0 (LG fi y,F2 fi) [1] 0) (([(1:Int)]).getD 0 0)]=_
 rw[QY]
 unfold Sq
 rw[show ([(1:Int)]).getD 0 0=1 from rfl]
 simp only[qd_get.1]
 rw[show (rQ fi 2 y).out=(1,((0:Nat):Int),fi) from rfl,show (rQ fi 2 y).why=y from rfl,lP hf hy]
end
end
def dQ(fi:Int):List Ky:= [(1,((0:Nat):Int),fi)]
theorem TN{b q:Nat}{gn:Int}{p:Nat}(h:p≤3):aN b q gn p=D2 b q 0 0 gn:=if_pos h
theorem bI{b q:Nat}{gn:Int}{p:Nat}(h: ¬p≤3):aN b q gn p=F1 b q:=if_neg h
theorem rS(n m:Nat)(zz yy:Int)(q:Nat)(mq bt ba cp fi:Int)(_:0≤(n:Int)-1)(_:0≤ -(n:Int)+256)(_:0≤(m:Int)-1)(_:0≤ -(m:Int)+4)(_:0≤zz-1)(_:0≤ -zz+64)(_:0≤yy-1)(_:0≤ -yy+64)(_:0≤(q:Int)-1)(_:0≤ -(q:Int)+64)(_:0≤mq-1)(_:0≤ -mq+256)(_:0≤bt-1)(_:0≤ -bt+64)(_:0≤ba-1)(_:0≤cp-ba)(_:0≤ -cp+1048576)(_:0≤fi-1)(_:0≤ -fi+4294967295):HT prog 6 [.agg #[iV n,iV m,iV zz,iV yy,iV q,iV mq,iV bt,iV ba,iV cp,uV fi]] [] (fun v K=> ∃mb:Nat,∃rg:Nat,∃ar:Nat,∃yc:Nat,∃rq:Nat,∃tb:Nat,∃wd:Nat,∃qo:Nat,∃lk:Nat,v=.tuple #[pV mb,iV 0]∧K= [BU mb rg m [] 0,AU rg ar yc rq n m zz yy q mq bt ba cp fi tb wd qo lk,B2 ar n m (aQ n fi),Cy yc n m 0 0 0 0 (n:Int) 0,Bl rq q 0,TW tb 256 (Ra fi),Wd wd (Fz fi),Cl qo [iV mq,pO] 191,Bj lk 0 []]):=lK n m zz yy q mq bt ba cp fi om om om om om om om om om om om om om om om om om om om
theorem jV(mb rg ar yc rq n m:Nat)(zz yy:Int)(q:Nat)(mq bt ba cp fi:Int)(tb wd qo lk nr:Nat)(at_ nx:Int)(hf:FiQ fi)(_:0≤ -(nr:Int)+99999)(_:0≤(m:Int)-1)(_:0≤mq-1)(_:0≤ -(n:Int)+256)(_:0≤(n:Int)-1):HQ 7 [pV mb,.agg #[iV 8,iV 0,iV 1,iV 5,iV 0,sV [120]]] [BU mb rg m [] nr,AU rg ar yc rq n m zz yy q mq bt ba cp fi tb wd qo lk,B2 ar n m (aQ n fi),Cy yc n m 0 0 0 at_ nx 0,Bl rq q 0,TW tb 256 (Ra fi),Wd wd (Fz fi),Cl qo [iV mq,pO] 191,Bj lk 0 []] (.agg #[iV 0,iV 0]) [BU mb rg m (dQ fi) (nr+1),AU rg ar yc rq n m zz yy q mq bt ba cp fi tb wd qo lk,RY ar n m (Ap (aQ n fi)) 0 fi,Cy yc n m 0 0 0 at_ nx 0,D2 rq q 0 0 fi,TW tb 256 (G1 fi),Wd wd (F2 fi),Cl qo [iV mq,pO] 191,Bj lk 0 (eQ fi)]:=by
 have hlo_:=hf.lo
 have hhi_:=hf.hi
 have h:=Q2 mb rg ar yc rq n m zz yy q mq bt ba cp fi tb wd qo lk [] nr 5 [120] (aQ n fi) 0 fi 0 at_ nx (Ra fi) (Fz fi) (F2 fi) ((0:Nat):Int) fi 0 fi (G1 fi) 0 [] (eQ fi) (Gm om) bC xB xC (rO hf) (zV hf) (zW hf) rfl rfl om om om om Uy Uz (by rw[show (AT (Ra fi).R 3).length=0 from rfl,show (Ra fi).R.length=0 from rfl];omega) (by rw[show (AT (Ra fi).R 3).length=0 from rfl,show (Ra fi).R.length=0 from rfl];omega) (by rw[show (Ra fi).R.length=0 from rfl];omega) (by have h_:1≤(AJ 0 (Ra fi).A 0).length:=U0 (N:=256) (fi:=fi) om;omega) (by have h_:1≤(AJ 0 (aQ n fi) 0).length:=U0 (N:=n) (fi:=fi) om;omega) om om dc om om om om om om om om om om om dc
 exact h
theorem bJ(mb rg ar yc rq n m:Nat)(zz yy:Int)(q:Nat)(mq bt ba cp fi:Int)(tb wd qo lk nr:Nat)(hf:FiQ fi)(_:0≤ -(nr:Int)+99999)(_:0≤(m:Int)-1)(_:0≤bt-1)(_:0≤ -bt+64)(_:0≤ba-1)(_:0≤cp-ba)(_:0≤ -cp+1048576)(_:0≤mq-1):HQ 7 [pV mb,.agg #[iV 14,iV 0,iV 0,iV 0,iV 0,sV []]] [BU mb rg m (dQ fi) nr,AU rg ar yc rq n m zz yy q mq bt ba cp fi tb wd qo lk,D2 rq q 0 0 fi,TW tb 256 (G1 fi),Wd wd (F2 fi),Cl qo [iV mq,pO] 191,Bj lk 0 (eQ fi)] (.agg #[iV 0,iV 0]) [BU mb rg m (dQ fi) (nr+1),AU rg ar yc rq n m zz yy q mq bt ba cp fi tb wd qo lk,D2 rq q 0 0 fi,TW tb 256 (G1 fi),Wd wd (F2 fi),Cl qo [iV mq,pO] 191,Bj lk 0 (eQ fi)]:=by
 have hlo_:=hf.lo
 have hhi_:=hf.hi
 have h:=Wj mb rg ar yc rq n m zz yy q mq bt ba cp fi tb wd qo lk (dQ fi) nr 0 0 fi (G1 fi) (F2 fi) 0 (eQ fi) rR om om om om om om om (by rw[show (AT (G1 fi).R 3).length=0 from rfl,show (G1 fi).R.length=1 from rfl];omega)
 exact h
theorem jW(mb rg ar yc rq n m:Nat)(zz yy:Int)(q:Nat)(mq bt ba cp fi:Int)(tb wd qo lk nr:Nat)(hf:FiQ fi)(_:0≤ -(nr:Int)+99999)(_:0≤(m:Int)-1)(_:0≤bt-1)(_:0≤ -bt+64)(_:0≤ba-1)(_:0≤cp-ba)(_:0≤ -cp+1048576)(_:0≤mq-1)(_:0≤(q:Int)-1)(_:0≤ -(q:Int)+64):HT prog 7 [pV mb,.agg #[iV 14,iV 0,iV 0,iV 0,iV 0,sV []]] [BU mb rg m (dQ fi) nr,AU rg ar yc rq n m zz yy q mq bt ba cp fi tb wd qo lk,F1 rq q,TW tb 256 (G1 fi),Wd wd (F2 fi),Cl qo [iV mq,pO] 191,Bj lk 0 (eQ fi)] (fun v K=> ∃z9:Int,v=.agg #[iV 0,iV 0]∧K= [BU mb rg m (dQ fi) (nr+1),AU rg ar yc rq n m zz yy q mq bt ba cp fi tb wd qo lk,Bl rq q z9,TW tb 256 (FM fi 3),Wd wd (G2 fi 3),Cl qo [iV mq,pO] 191,Bj lk 1 (LJ fi 3)]):=by
 have hlo_:=hf.lo
 have hhi_:=hf.hi
 have h:=aT mb rg ar yc rq n m zz yy q mq bt ba cp fi tb wd qo lk (dQ fi) nr (G1 fi) (Wt fi) (LG fi 3) (FM fi 3) (F2 fi) (G2 fi 3) (eQ fi) (LJ fi 3) [120] 0 1 ((0:Nat):Int) fi fi rfl rfl (M3 hf).1 (aV hf) (M4 hf).2 (M4 hf).1 q_get.1 q_get.2 (M5 hf dc).1 (M5 hf dc).2 rfl (aX om) (bE _ hf dc) (bG _ hf dc) (bH _ hf dc) aZ bA om om om om om om om om om om om om om Uy Uz om om om om (by rw[show (AT (FM fi 3).R 3).length=1 from rfl,show (FM fi 3).R.length=1 from rfl];omega)
 exact h
theorem U2(mb rg ar yc rq n m:Nat)(zz yy:Int)(q:Nat)(mq bt ba cp fi:Int)(tb wd qo lk nr:Nat)(hf:FiQ fi)(_:0≤ -(nr:Int)+99999)(_:0≤(m:Int)-1):HQ 7 [pV mb,.agg #[iV 12,iV 0,iV 0,iV 0,iV 0,sV []]] [BU mb rg m (dQ fi) nr,AU rg ar yc rq n m zz yy q mq bt ba cp fi tb wd qo lk,D2 rq q 0 0 fi,TW tb 256 (G1 fi),Wd wd (F2 fi)] (.agg #[iV 0,iV 0]) [BU mb rg m (dQ fi) (nr+1),AU rg ar yc rq n m zz yy q mq bt ba cp fi tb wd qo lk,Bl rq q 0,TW tb 256 (LG fi 1),Wd wd (F2 fi)]:=by
 have hlo_:=hf.lo
 have hhi_:=hf.hi
 have h:=Qv mb rg ar yc rq n m zz yy q mq bt ba cp fi tb wd qo lk (dQ fi) nr [120] (G1 fi) (Wt fi) (LG fi 1) (F2 fi) ((0:Nat):Int) fi 1 0 fi 0 fi 0 (M3 hf).1 (aV hf) (M4 hf).2 (M4 hf).1 q_get.1 q_get.2 (M5 hf dc).1 (M5 hf dc).2 rfl rfl om om om om om om om om Uy Uz (by rw[show (dQ fi).length=1 from rfl];omega) om
 exact h
theorem jX(mb rg ar yc rq n m:Nat)(zz yy:Int)(q:Nat)(mq bt ba cp fi:Int)(tb wd qo lk nr:Nat)(hf:FiQ fi)(_:0≤ -(nr:Int)+99999)(_:0≤(m:Int)-1):HQ 7 [pV mb,.agg #[iV 12,iV 0,iV 0,iV 0,iV 0,sV []]] [BU mb rg m (dQ fi) nr,AU rg ar yc rq n m zz yy q mq bt ba cp fi tb wd qo lk,F1 rq q,TW tb 256 (G1 fi),Wd wd (F2 fi)] (.agg #[iV 0,iV 0]) [BU mb rg m (dQ fi) (nr+1),AU rg ar yc rq n m zz yy q mq bt ba cp fi tb wd qo lk,Bl rq q 0,TW tb 256 (LG fi 1),Wd wd (F2 fi)]:=by
 have hlo_:=hf.lo
 have hhi_:=hf.hi
 have h:=aH mb rg ar yc rq n m zz yy q mq bt ba cp fi tb wd qo lk (dQ fi) nr [120] (G1 fi) (Wt fi) (LG fi 1) (F2 fi) ((0:Nat):Int) fi 1 fi 0 (M3 hf).1 (aV hf) (M4 hf).2 (M4 hf).1 q_get.1 q_get.2 (M5 hf dc).1 (M5 hf dc).2 rfl rfl om om om om om om om Uy Uz (by rw[show (dQ fi).length=1 from rfl];omega) om
 exact h
theorem jY(mb rg ar yc rq n m:Nat)(zz yy:Int)(q:Nat)(mq bt ba cp fi:Int)(tb wd qo lk nr p:Nat)(hf:FiQ fi)(_:0≤ -(nr:Int)+99999)(_:0≤(m:Int)-1):HQ 7 [pV mb,.agg #[iV 12,iV 0,iV 0,iV 0,iV 0,sV []]] [BU mb rg m (dQ fi) nr,AU rg ar yc rq n m zz yy q mq bt ba cp fi tb wd qo lk,aN rq q fi p,TW tb 256 (G1 fi),Wd wd (F2 fi)] (.agg #[iV 0,iV 0]) [BU mb rg m (dQ fi) (nr+1),AU rg ar yc rq n m zz yy q mq bt ba cp fi tb wd qo lk,Bl rq q 0,TW tb 256 (LG fi 1),Wd wd (F2 fi)]:=by
 by_cases hp:p≤3
 · rw[TN hp]
   exact U2 mb rg ar yc rq n m zz yy q mq bt ba cp fi tb wd qo lk nr hf om om
 · rw[bI hp]
   exact jX mb rg ar yc rq n m zz yy q mq bt ba cp fi tb wd qo lk nr hf om om
theorem jZ(mb rg ar yc rq n m:Nat)(zz yy:Int)(q:Nat)(mq bt ba cp fi:Int)(tb wd qo lk nr:Nat)(hf:FiQ fi)(_:0≤ -(nr:Int)+99999)(_:0≤(m:Int)-1):HQ 7 [pV mb,.agg #[iV 12,iV 0,iV 0,iV 0,iV 0,sV []]] [BU mb rg m (dQ fi) nr,AU rg ar yc rq n m zz yy q mq bt ba cp fi tb wd qo lk,TW tb 256 (FM fi 3)] (.agg #[iV 7,iV 0]) [BU mb rg m (dQ fi) (nr+1),AU rg ar yc rq n m zz yy q mq bt ba cp fi tb wd qo lk,TW tb 256 (FM fi 3)]:=by
 have hlo_:=hf.lo
 have hhi_:=hf.hi
 have h:=aE mb rg ar yc rq n m zz yy q mq bt ba cp fi tb wd qo lk (dQ fi) nr (FM fi 3) 0 fi 0 (jT hf) rfl om om om om (by rw[show (dQ fi).length=1 from rfl];omega) om
 exact h
theorem RR(mb rg ar yc rq n m:Nat)(zz yy:Int)(q:Nat)(mq bt ba cp fi:Int)(tb wd qo lk nr:Nat)(f:Int)(hf:FiQ fi)(_:0≤ -(nr:Int)+99999)(_:0≤(m:Int)-1)(_:0≤bt-1)(_:0≤ -bt+64)(_:0≤ba-1)(_:0≤cp-ba)(_:0≤ -cp+1048576)(_:0≤mq-1):HQ 7 [pV mb,.agg #[iV 14,iV 0,iV 0,iV 0,iV 0,sV []]] [BU mb rg m (dQ fi) nr,AU rg ar yc rq n m zz yy q mq bt ba cp fi tb wd qo lk,Bl rq q f,TW tb 256 (LG fi 1),Wd wd (F2 fi),Cl qo [iV mq,pO] 191,Bj lk 0 (eQ fi)] (.agg #[iV 0,iV 0]) [BU mb rg m (dQ fi) (nr+1),AU rg ar yc rq n m zz yy q mq bt ba cp fi tb wd qo lk,Bl rq q f,TW tb 256 (FM fi 1),Wd wd (G2 fi 1),Cl qo [iV mq,pO] 191,Bj lk 1 (LJ fi 1)]:=by
 have hlo_:=hf.lo
 have hhi_:=hf.hi
 have h:=Wk mb rg ar yc rq n m zz yy q mq bt ba cp fi tb wd qo lk (dQ fi) nr f (LG fi 1) (F2 fi) 0 (eQ fi) (FM fi 1) (G2 fi 1) (LJ fi 1) 1 ((0:Nat):Int) fi 1 [120] (aX om) (bE _ hf dc) (bG _ hf dc) (bH _ hf dc) aZ bA om om om om om om om om om om om om om om om (by rw[show (AT (FM fi 1).R 3).length=1 from rfl,show (FM fi 1).R.length=1 from rfl];omega)
 exact h
theorem Fs(mb rg ar yc rq n m:Nat)(zz yy:Int)(q:Nat)(mq bt ba cp fi:Int)(tb wd qo lk nr:Nat)(f:Int)(_:0≤ -(nr:Int)+99999)(_:0≤(m:Int)-1)(_:0≤bt-1)(_:0≤ -bt+64)(_:0≤ba-1)(_:0≤cp-ba)(_:0≤ -cp+1048576)(_:0≤mq-1):HQ 7 [pV mb,.agg #[iV 14,iV 0,iV 0,iV 0,iV 0,sV []]] [BU mb rg m (dQ fi) nr,AU rg ar yc rq n m zz yy q mq bt ba cp fi tb wd qo lk,Bl rq q f,TW tb 256 (FM fi 1),Wd wd (G2 fi 1),Cl qo [iV mq,pO] 191,Bj lk 1 (LJ fi 1)] (.agg #[iV 0,iV 0]) [BU mb rg m (dQ fi) (nr+1),AU rg ar yc rq n m zz yy q mq bt ba cp fi tb wd qo lk,Bl rq q f,TW tb 256 (FM fi 1),Wd wd (G2 fi 1),Cl qo [iV mq,pO] 191,Bj lk 1 (LJ fi 1)]:=by
 have h:=M1 mb rg ar yc rq n m zz yy q mq bt ba cp fi tb wd qo lk (dQ fi) nr f (FM fi 1) (G2 fi 1) 1 (LJ fi 1) aY om om om om om om om (by rw[show (AT (FM fi 1).R 3).length=1 from rfl,show (FM fi 1).R.length=1 from rfl];omega)
 exact h
theorem U3(mb rg ar yc rq n m:Nat)(zz yy:Int)(q:Nat)(mq bt ba cp fi:Int)(tb wd qo lk nr:Nat):HT prog 11 [pV mb] [BU mb rg m (dQ fi) nr,AU rg ar yc rq n m zz yy q mq bt ba cp fi tb wd qo lk,Wd wd (G2 fi 1)] (fun v K=> ∃p:Option Addr,∃c:Nat,v=.slice p 1 c∧K= [BU mb rg m (dQ fi) nr,AU rg ar yc rq n m zz yy q mq bt ba cp fi tb wd qo lk,Wd wd (G2 fi 1),Sl 50 6 p 1 c (fl DM ((G2 fi 1).T))]):=by
 have h:=aI mb rg ar yc rq n m zz yy q mq bt ba cp fi tb wd qo lk (dQ fi) nr (G2 fi 1)
 exact h
theorem Jr(mb rg ar yc rq n m:Nat)(zz yy:Int)(q:Nat)(mq bt ba cp fi:Int)(tb wd qo lk nr:Nat)(at_ nx f:Int)(A:List AM)(ec bg:Int)(_:0≤mq-1)(_:0≤ -mq+256):HT prog 13 [pV mb] [BU mb rg m (dQ fi) nr,AU rg ar yc rq n m zz yy q mq bt ba cp fi tb wd qo lk,B2 ar n m A,Cy yc n m 0 ec 0 at_ nx bg,Bl rq q f,TW tb 256 (FM fi 1),Wd wd (G2 fi 1),Cl qo [iV mq,pO] 191,Bj lk 1 (LJ fi 1)] (fun v K=> ∃a:Nat,∃d:Nat,∃e:Nat,∃i:Nat,∃b:Nat,∃j:Nat,∃k:Nat,∃c:Nat,v=pV a∧K= [AU a d e i n m zz yy q mq bt ba cp fi b j k c,TW b 256 (FM fi 1),Bj c 1 (LJ fi 1),BU mb rg m (dQ fi) nr,AU rg ar yc rq n m zz yy q mq bt ba cp fi tb wd qo lk,B2 ar n m A,Cy yc n m 0 ec 0 at_ nx bg,Bl rq q f,TW tb 256 (FM fi 1),Wd wd (G2 fi 1),Cl qo [iV mq,pO] 191,Bj lk 1 (LJ fi 1)]):=by
 have h:=wY mb rg ar yc rq n m zz yy q mq bt ba cp fi tb wd qo lk (dQ fi) nr A ec at_ nx bg (FM fi 1) (G2 fi 1) f 1 ((0:Nat):Int) fi [120] 0 1 om om
 exact h
theorem bK(ar yc rq n m:Nat)(zz yy:Int)(q:Nat)(mq bt ba cp fi:Int)(tb wd qo lk b:Nat):HQ 14 [pV b] [AU b ar yc rq n m zz yy q mq bt ba cp fi tb wd qo lk,Bj lk 1 (LJ fi 1)] (.slice none 0 0) [AU b ar yc rq n m zz yy q mq bt ba cp fi tb wd qo lk,Bj lk 1 (LJ fi 1)]:=by
 have h:=wW b ar yc rq n m zz yy q mq bt ba cp fi tb wd qo lk 1 ((0:Nat):Int) fi [120] 0 om
 exact h
theorem bL(ar yc rq n m:Nat)(zz yy:Int)(q:Nat)(mq bt ba cp fi:Int)(tb wd qo lk b:Nat):HQ 15 [pV b] [AU b ar yc rq n m zz yy q mq bt ba cp fi tb wd qo lk,TW tb 256 (FM fi 1)] (.agg #[iV 1,iV 0,iV 0,iV 1,iV 0]) [AU b ar yc rq n m zz yy q mq bt ba cp fi tb wd qo lk,TW tb 256 (FM fi 1)]:=by
 have h:=Uv b ar yc rq n m zz yy q mq bt ba cp fi tb wd qo lk (FM fi 1)
 exact h
theorem HF(mb rg ar yc rq n m:Nat)(zz yy:Int)(q:Nat)(mq bt ba cp fi:Int)(tb wd qo lk nr:Nat)(f:Int)(_:0≤ -(nr:Int)+99999)(_:0≤(m:Int)-1)(_:0≤bt-1)(_:0≤ -bt+64)(_:0≤ba-1)(_:0≤cp-ba)(_:0≤ -cp+1048576)(_:0≤mq-1):HQ 7 [pV mb,.agg #[iV 14,iV 0,iV 0,iV 0,iV 0,sV []]] [BU mb rg m (dQ fi) nr,AU rg ar yc rq n m zz yy q mq bt ba cp fi tb wd qo lk,Bl rq q f,TW tb 256 (FM fi 3),Wd wd (G2 fi 3),Cl qo [iV mq,pO] 191,Bj lk 1 (LJ fi 3)] (.agg #[iV 0,iV 0]) [BU mb rg m (dQ fi) (nr+1),AU rg ar yc rq n m zz yy q mq bt ba cp fi tb wd qo lk,Bl rq q f,TW tb 256 (FM fi 3),Wd wd (G2 fi 3),Cl qo [iV mq,pO] 191,Bj lk 1 (LJ fi 3)]:=by
 have h:=M1 mb rg ar yc rq n m zz yy q mq bt ba cp fi tb wd qo lk (dQ fi) nr f (FM fi 3) (G2 fi 3) 1 (LJ fi 3) aY om om om om om om om (by rw[show (AT (FM fi 3).R 3).length=1 from rfl,show (FM fi 3).R.length=1 from rfl];omega)
 exact h
theorem U4(mb rg ar yc rq n m:Nat)(zz yy:Int)(q:Nat)(mq bt ba cp fi:Int)(tb wd qo lk nr:Nat):HT prog 11 [pV mb] [BU mb rg m (dQ fi) nr,AU rg ar yc rq n m zz yy q mq bt ba cp fi tb wd qo lk,Wd wd (G2 fi 3)] (fun v K=> ∃p:Option Addr,∃c:Nat,v=.slice p 1 c∧K= [BU mb rg m (dQ fi) nr,AU rg ar yc rq n m zz yy q mq bt ba cp fi tb wd qo lk,Wd wd (G2 fi 3),Sl 50 6 p 1 c (fl DM ((G2 fi 3).T))]):=by
 have h:=aI mb rg ar yc rq n m zz yy q mq bt ba cp fi tb wd qo lk (dQ fi) nr (G2 fi 3)
 exact h
theorem U5(mb rg ar yc rq n m:Nat)(zz yy:Int)(q:Nat)(mq bt ba cp fi:Int)(tb wd qo lk nr:Nat)(at_ nx f:Int)(A:List AM)(ec bg:Int)(_:0≤mq-1)(_:0≤ -mq+256):HT prog 13 [pV mb] [BU mb rg m (dQ fi) nr,AU rg ar yc rq n m zz yy q mq bt ba cp fi tb wd qo lk,B2 ar n m A,Cy yc n m 0 ec 0 at_ nx bg,Bl rq q f,TW tb 256 (FM fi 3),Wd wd (G2 fi 3),Cl qo [iV mq,pO] 191,Bj lk 1 (LJ fi 3)] (fun v K=> ∃a:Nat,∃d:Nat,∃e:Nat,∃i:Nat,∃b:Nat,∃j:Nat,∃k:Nat,∃c:Nat,v=pV a∧K= [AU a d e i n m zz yy q mq bt ba cp fi b j k c,TW b 256 (FM fi 3),Bj c 1 (LJ fi 3),BU mb rg m (dQ fi) nr,AU rg ar yc rq n m zz yy q mq bt ba cp fi tb wd qo lk,B2 ar n m A,Cy yc n m 0 ec 0 at_ nx bg,Bl rq q f,TW tb 256 (FM fi 3),Wd wd (G2 fi 3),Cl qo [iV mq,pO] 191,Bj lk 1 (LJ fi 3)]):=by
 have h:=wY mb rg ar yc rq n m zz yy q mq bt ba cp fi tb wd qo lk (dQ fi) nr A ec at_ nx bg (FM fi 3) (G2 fi 3) f 1 ((0:Nat):Int) fi [120] 0 3 om om
 exact h
theorem rT(ar yc rq n m:Nat)(zz yy:Int)(q:Nat)(mq bt ba cp fi:Int)(tb wd qo lk b:Nat):HT prog 14 [pV b] [AU b ar yc rq n m zz yy q mq bt ba cp fi tb wd qo lk,Bj lk 1 (LJ fi 3)] (fun v K=> ∃p:Option Addr,∃c:Nat,v=.slice p 1 c∧K= [AU b ar yc rq n m zz yy q mq bt ba cp fi tb wd qo lk,Bj lk 1 (LJ fi 3),Sl 62 6 p 1 c (fl jR ([([120],1,((0:Nat):Int),fi,0,3)]))]):=by
 have h:=wX b ar yc rq n m zz yy q mq bt ba cp fi tb wd qo lk 1 ((0:Nat):Int) fi [120] 0 om
 exact h
theorem rU(ar yc rq n m:Nat)(zz yy:Int)(q:Nat)(mq bt ba cp fi:Int)(tb wd qo lk b:Nat):HQ 15 [pV b] [AU b ar yc rq n m zz yy q mq bt ba cp fi tb wd qo lk,TW tb 256 (FM fi 3)] (.agg #[iV 1,iV 0,iV 0,iV 1,iV 0]) [AU b ar yc rq n m zz yy q mq bt ba cp fi tb wd qo lk,TW tb 256 (FM fi 3)]:=by
 have h:=Uv b ar yc rq n m zz yy q mq bt ba cp fi tb wd qo lk (FM fi 3)
 exact h
theorem U6(mb rg ar yc rq n m:Nat)(zz yy:Int)(q:Nat)(mq bt ba cp fi:Int)(tb wd qo lk nr:Nat):HT prog 11 [pV mb] [BU mb rg m (dQ fi) nr,AU rg ar yc rq n m zz yy q mq bt ba cp fi tb wd qo lk,Wd wd (F2 fi)] (fun v K=> ∃p:Option Addr,∃c:Nat,v=.slice p 0 c∧K= [BU mb rg m (dQ fi) nr,AU rg ar yc rq n m zz yy q mq bt ba cp fi tb wd qo lk,Wd wd (F2 fi),Sl 50 6 p 0 c (fl DM ((F2 fi).T))]):=by
 have h:=aI mb rg ar yc rq n m zz yy q mq bt ba cp fi tb wd qo lk (dQ fi) nr (F2 fi)
 exact h
theorem RS(mb rg ar yc rq n m:Nat)(zz yy:Int)(q:Nat)(mq bt ba cp fi:Int)(tb wd qo lk:Nat)(D:List Ky)(nr:Nat)(A:List AM)(gn ec bg:Int)(p:Nat)(f:Int)(_:0≤ -(nr:Int)+99999)(_:0≤(n:Int)-1)(_:0≤ -(n:Int)+16)(_:0≤ec)(_:0≤ -ec+1000000)(_:0≤(m:Int)-1)(_:0≤(q:Int)-1)(_:0≤gn-1)(_:0≤2*(n:Int)-(p:Int)+3):HQ 7 [pV mb,.agg #[iV 13,iV 0,iV 60,iV 0,iV 0,sV []]] [BU mb rg m D nr,AU rg ar yc rq n m zz yy q mq bt ba cp fi tb wd qo lk,C8 yc n m ec bg p m,Cw ar n m A 0 gn p,Bl rq q f] (.agg #[iV 0,iV 0]) [BU mb rg m D (nr+1),AU rg ar yc rq n m zz yy q mq bt ba cp fi tb wd qo lk,C8 yc n m ec bg (pN n p) 0,Cw ar n m A 0 gn (pN n p),Bl rq q f]:=by
 by_cases a:p=0
 · subst a
   exact Wn mb rg ar yc rq n m zz yy q mq bt ba cp fi tb wd qo lk D nr A 0 gn ec bg f 60 om om om om om om om om om
 · rw[show pN n p=n*2+3 from if_neg a]
   exact DO mb rg ar yc rq n m zz yy q mq bt ba cp fi tb wd qo lk D nr A 0 gn ec bg p f 60 om om om om om om om om om om om om
theorem AW{n:Nat}{l:Fr}{o:Oper}{x y:Operand}(a b c c1:Int)(ho:o.op= .binOp .neq 34 x y 34)(hx:fe n l x= .agg #[iV a,iV b])(hy:fe n l y= .agg #[iV c,iV c1])(h:a=c∧b=c1)(w:World):(execOp (fe n l) o).run prog w= .ok (.value (bF)) w:=by
 obtain⟨rfl,rfl⟩:=h
 simp[execOp,ho,hx,hy,go_sem]
theorem Wu:HQ 9 [iV 13,iV 0,iV 1,iV 0] [] (.agg #[iV 13,iV 0,iV 1,iV 0,iV 0,sV []]) []:=by
 refine AC func9 ntmps9 fun g w0 R h0=>g0<|nP 37 [iV 0,iV 0,iV 0,iV 0,iV 0,sV []] h0 (fun _ _ c=> ?_)
 refine g0<|sA [iV 13,iV 0,iV 1,iV 0,iV 0,sV []] c fun _ b=>g0 ?_
 exact AD _ [rd 0 0 0 0 6 b] b.a.t1
theorem C6:HQ 9 [iV 13,iV 0,iV 60,iV 0] [] (.agg #[iV 13,iV 0,iV 60,iV 0,iV 0,sV []]) []:=by
 refine AC func9 ntmps9 fun g w0 R h0=>g0<|nP 37 [iV 0,iV 0,iV 0,iV 0,iV 0,sV []] h0 (fun _ _ c=> ?_)
 refine g0<|sA [iV 13,iV 0,iV 60,iV 0,iV 0,sV []] c fun _ b=>g0 ?_
 exact AD _ [rd 0 0 0 0 6 b] b.a.t1
theorem bM(zo zm zt zq zu zb zw zl zv:Int)(eb:Bool)(_:0≤zo)(_:0≤zm)(_:0≤zt)(_:0≤zq)(_:0≤zu)(_:0≤zb)(_:0≤zw)(_:0≤zl)(_:0≤zv)(_:0≤ -zo+255)(_:0≤ -zm+255)(_:0≤ -zt+255)(_:0≤ -zq+255)(_:0≤ -zu+255)(_:0≤ -zb+255)(_:0≤ -zw+255)(_:0≤ -zl+255)(_:0≤ -zv+255):HQ 4 [.agg #[yV zo,yV zm,yV zt,yV zq,yV zu,yV zb,yV zw,yV zl],yV zv,.bool eb] [] (bT) []:=by
 refine AC func4 ntmps4 fun g w0 R h0=> ?_
 obtain⟨sn_,hsn_⟩: ∃k:Nat,zv%80=(k:Int):=⟨(zv%80).toNat,by omega⟩;have hsb_:sn_≤79:=(by omega)
 refine g0<|nP 23 [yV zo,yV zm,yV zt,yV zq,yV zu,yV zb,yV zw,yV zl] h0 (fun au _ av=> ?_)
 refine go [rd 1 0 0 0 8 av]<|cP call5 (rN zo zm zt zq zu zb zw zl om om om om om om om om om om om om om om om om) av ?_
 rintro v K _ (⟨n,m,q,zz,yy,mq,bt,ba,cp,fi,hcb_,rfl,rfl⟩) dx
 have dy:=ap0 dx
 have hf:FiQ fi:=⟨by omega,by omega⟩
 refine nP 26 [iV 0,iV 0,iV 0,iV 0,iV 0,iV 0,iV 0,iV 0,iV 0,uV 0] dy (fun H _ dz=> ?_)
 refine sA [iV n,iV m,iV zz,iV yy,iV q,iV mq,iV bt,iV ba,iV cp,uV fi] dz fun _ aw=>go [rd 2 0 0 0 10 aw]<|cP call6 (rS n m zz yy q mq bt ba cp fi om om om om om om om om om om om om om om om om om om om) aw ?_
 rintro v K nv (⟨mb,rg,ar,yc,rq,tb,wd,qo,lk,rfl,rfl⟩) ea
 have ec:sat g _ (BU mb rg m [] 0::_):=ea
 refine g0<|nG (fun q_=> .slice (some ⟨q_,0,none⟩) 3 3) 37 [iV 8,iV 0,iV 1,iV 5,iV 0,sV [120],iV 4,iV 0,iV 0,iV 0,iV 0,sV [],iV 16,iV 0,iV 0,iV 0,iV 0,sV []] ec (fun z _ ax=>⟨kd [],?_⟩)
 refine g0<|DS 39<|go [.v 7 2 (oJ .i64 (3:Int) 3),.s 9 3]<|AS (pV z) (D5 (Ot 38) (Ot 39) z 0 0 3 3 underlying53 6 0 0) ?_
 have ed:=ax.i.i.i.i.i.i.i.i.i.t13
 refine go [rd 9 4 0 0 6 ax]<|cP call7 (jV mb rg ar yc rq n m zz yy q mq bt ba cp fi tb wd qo lk 0 0 (n:Int) hf om om om om om) ed ?_
 rintro v K nw (⟨rfl,rfl⟩) ee
 have ay:sat g _ (BU mb rg m (dQ fi) 1::_):=ee
 refine go [.s 9 7]<|AS (bF) (AW (x:=Ot 42) (y:=Ot 43) 0 0 0 0 kr kr kr ⟨rfl,rfl⟩ _)<|g0<|Bm<|go [.v 7 2 (oJ .i64 (3:Int) 3),.s 9 3]<|AS (.pointer (some ⟨z,6,none⟩)) (D5 (Ot 38) (Ot 39) z 0 1 3 3 underlying53 6 1 6)<|go [rd 9 4 9 6 6 ay]<|IM call7 (aD mb rg ar yc rq n m zz yy q mq bt ba cp fi tb wd qo lk (dQ fi) 1 (Ap (aQ n fi)) 0 fi om om) ay fun _ az=>go [.s 9 7]<|AS (bF) (AW (x:=Ot 42) (y:=Ot 43) 0 0 0 0 kr kr kr ⟨rfl,rfl⟩ _)<|g0<|Bm<|go [.v 7 2 (oJ .i64 (3:Int) 3),.s 9 3] ?_
 refine AS (.pointer (some ⟨z,12,none⟩)) (D5 (Ot 38) (Ot 39) z 0 2 3 3 underlying53 6 2 12) ?_
 have ef:=az.c.b.b.t13
 refine go [rd 9 4 9 12 6 az]<|IM call7 (jM mb rg ar yc rq n m zz yy q mq bt ba cp fi tb wd qo lk (dQ fi) 2 0 0 0 (n:Int) 0 om om om) ef fun eg eh=> ?_
 have ei:sat g eg [C8 yc n m 0 1 0 0,Cw ar n m (Ap (aQ n fi)) 0 fi 0,BU mb rg m (dQ fi) 3,AU rg ar yc rq n m zz yy q mq bt ba cp fi tb wd qo lk,D2 rq q 0 0 fi,TW tb 256 (G1 fi),Wd wd (F2 fi),Cl qo [iV mq,pO] 191,Bj lk 0 (eQ fi),Cl z [iV 8,iV 0,iV 1,iV 5,iV 0,sV [120],iV 4,iV 0,iV 0,iV 0,iV 0,sV [],iV 16,iV 0,iV 0,iV 0,iV 0,sV []] 37,Cl H [iV n,iV m,iV zz,iV yy,iV q,iV mq,iV bt,iV ba,iV cp,uV fi] 26,Cl au [yV zo,yV zm,yV zt,yV zq,yV zu,yV zb,yV zw,yV zl] 23,R]:=Zd om eh.c.c.t13
 have ej:sat g _ (aN rq q fi 0::_):=AI ei.d.t13 (fun _ q_=>by rw[TN om];exact q_)
 refine go [.s 9 7]<|AS (bF) (AW (x:=Ot 42) (y:=Ot 43) 0 0 0 0 kr kr kr ⟨rfl,rfl⟩ _)<|g0<|Bm<|go [.v 7 2 (oJ .i64 (3:Int) 3)]<|up<|g0 ?_
 refine Jc (fun mz_ a w=> ∃i:Nat,∃nr:Nat,∃p:Nat,∃lr:Fr,mz_=sn_-i∧(i≤sn_)∧(nr≤3+i*5)∧(p≤n*2+3)∧a=mk 167 (([(1,yV zv),(2,.bool eb),(7,pV H),(8,pV mb),(12,iV i)]:Fr)++lr)∧sat g w [aN rq q fi p,C8 yc n m 0 1 p 0,Cw ar n m (Ap (aQ n fi)) 0 fi p,BU mb rg m (dQ fi) nr,AU rg ar yc rq n m zz yy q mq bt ba cp fi tb wd qo lk,TW tb 256 (G1 fi),Wd wd (F2 fi),Cl qo [iV mq,pO] 191,Bj lk 0 (eQ fi),Cl z [iV 8,iV 0,iV 1,iV 5,iV 0,sV [120],iV 4,iV 0,iV 0,iV 0,iV 0,sV [],iV 16,iV 0,iV 0,iV 0,iV 0,sV []] 37,Cl H [iV n,iV m,iV zz,iV yy,iV q,iV mq,iV bt,iV ba,iV cp,uV fi] 26,Cl au [yV zo,yV zm,yV zt,yV zq,yV zu,yV zb,yV zw,yV zl] 23,R]) (sn_-0) ⟨0,3,0,_,rfl,(Nat.zero_le _),om,(Nat.zero_le _),(Ck [.k 1 (yV zv),.k 2 (.bool eb),.k 7 (pV H),.k 8 (pV mb),.o 12 (oJ .i64 0 (0:Int))]),ej⟩ ?_
 rintro nx ny nz ⟨i,nr,p,oa,rfl,hi_,hnr_,hp_,rfl,I⟩
 refine ga<|go [.s 12 2]<|AS (yV sn_) (Bh (t:=5) (x:=Ot 46) (y:=(Operand.const (yV 80))) kr zv 80 kr kr om (sn_:Int) ((EL om).trans hsn_) _)<|go [.v 12 3 (CD (sn_:Int)),.s 12 4] ?_
 by_cases bb:(i:Int)<(sn_:Int)
 ·
  have ek:=I.b.b.d.d.t13
  refine go [.v 12 4 (oT _ bb),rd 14 1 10 0 10 I]<|IL call10 (Ds mb rg ar yc rq n m zz yy q mq bt ba cp fi tb wd qo lk (dQ fi) nr (Ap (aQ n fi)) 0 fi 0 1 p om om om om om) ek fun ob el=> ?_
  obtain⟨ab,em⟩: ∃x:Nat,nr+m=x:=⟨_,rfl⟩
  have eo:sat g _ (BU mb rg m (dQ fi) ab::_):=AI el (fun _ q_=>by rw[em] at q_;exact q_)
  refine g0<|AP call9 Wu eo fun _ ep=>LK call7 (jP mb rg ar yc rq n m zz yy q mq bt ba cp fi tb wd qo lk (dQ fi) ab (Ap (aQ n fi)) fi 0 1 p om om om om om om om om) ep fun oc eq=> ?_
  have hb_:=rB (n:=n) (p:=p) om
  obtain⟨S,U⟩: ∃x:Nat,Q4 n p=x:=⟨_,rfl⟩
  have er:sat g _ (C8 yc n m 0 1 S 0::_):=AI eq.b.t13 (fun _ q_=>by rw[U] at q_;exact q_)
  have es:sat g _ (Cw ar n m (Ap (aQ n fi)) 0 fi S::_):=AI er.c.t13 (fun _ q_=>by rw[U] at q_;exact q_)
  have et:sat g _ (aN rq q fi S::_):=AI es.d.t13 (fun _ q_=>by rw[U] at q_;exact q_)
  rw[U] at hb_
  refine go [.s 15 4]<|AS (bF) (AW (x:=Ot 57) (y:=Ot 58) 0 0 0 0 kr kr kr ⟨rfl,rfl⟩ _)<|go [.v 13 1 (CD ((i:Int)+1))] ?_
  refine ET ?_
  have eu:=et.b.a.t13
  change ∃n',n'<_∧_
  refine⟨(sn_-(i+1)),by omega,(i+1),(ab+1),S,_,rfl,om,om,om,(Ck [.k 1 (yV zv),.k 2 (.bool eb),.k 7 (pV H),.k 8 (pV mb),.o 12 (oJ .i64 ((i:Int)+1) (((i+1):Nat):Int))]),eu⟩
 refine go [.v 12 4 (oF _ bb)]<|up<|go [.s 17 0] ?_
 rcases Bool.eq_false_or_eq_true eb with V|V;rotate_left
 ·
  have ev:=I.f.f.b.f.f.t13
  refine go [.v 17 0 (⟨.bool eb,bF,(Rj V)⟩)]<|LK call7 (jY mb rg ar yc rq n m zz yy q mq bt ba cp fi tb wd qo lk nr p hf om om) ev fun _ ew=>nP 34 [iV 0,iV 0] ew (fun od _ ex=> ?_)
  refine sA [iV 0,iV 0] ex fun _ ey=> ?_
  have ez:=ey.e.c.c.t14
  refine g0<|cP call11 (U6 mb rg ar yc rq n m zz yy q mq bt ba cp fi tb wd qo lk (nr+1)) ez ?_
  rintro v K _ (⟨oe,og,rfl,rfl⟩) ia
  have bc:=Wx ia
  refine g0<|DS 39 ?_
  have ib:=bc.h.h.c.c.t15
  refine go [rd 24 1 12 0 10 bc]<|IL call10 (Ds mb rg ar yc rq n m zz yy q mq bt ba cp fi tb wd qo lk (dQ fi) (nr+1) (Ap (aQ n fi)) 0 fi 0 1 p om om om om om) ib fun oh ic=> ?_
  obtain⟨J,id⟩: ∃x:Nat,nr+1+m=x:=⟨_,rfl⟩
  have ie:sat g _ (BU mb rg m (dQ fi) J::_):=AI ic (fun _ q_=>by rw[id] at q_;exact q_)
  refine g0<|AP call9 C6 ie fun _ ig=>LK call7 (RS mb rg ar yc rq n m zz yy q mq bt ba cp fi tb wd qo lk (dQ fi) J (Ap (aQ n fi)) fi 0 1 p 0 om om om om om om om om om) ig.x.d.d.d.d.t15 fun oi ih=> ?_
  have hb_:=lL n p
  obtain⟨W,ac⟩: ∃x:Nat,pN n p=x:=⟨_,rfl⟩
  have ii:sat g _ (C8 yc n m 0 1 W 0::_):=AI ih.b.t15 (fun _ q_=>by rw[ac] at q_;exact q_)
  have ij:sat g _ (Cw ar n m (Ap (aQ n fi)) 0 fi W::_):=AI ii.c.t15 (fun _ q_=>by rw[ac] at q_;exact q_)
  rw[ac] at hb_
  refine go [.s 25 4]<|AS (bF) (AW (x:=Ot 83) (y:=Ot 84) 0 0 0 0 kr kr kr ⟨rfl,rfl⟩ _) ?_
  have ik:=ij.j.j.x.j.h.h.h.t15
  refine g0<|cP call7 (RR mb rg ar yc rq n m zz yy q mq bt ba cp fi tb wd qo lk (J+1) 0 hf om om om om om om om om) ik ?_
  rintro v K _ (⟨rfl,rfl⟩) il
  have bd:=IW il
  refine go [.s 25 10]<|AS (bF) (AW (x:=Ot 89) (y:=Ot 90) 0 0 0 0 kr kr kr ⟨rfl,rfl⟩ _)<|g0<|Bm ?_
  have im:=bd.x.h.c.c.t15
  refine go [rd 24 1 12 0 10 bd]<|IL call10 (Ds mb rg ar yc rq n m zz yy q mq bt ba cp fi tb wd qo lk (dQ fi) (J+2) (Ap (aQ n fi)) 0 fi 0 1 W om om om om om) im fun oj io=> ?_
  obtain⟨L,ip⟩: ∃x:Nat,J+2+m=x:=⟨_,rfl⟩
  have iq:sat g _ (BU mb rg m (dQ fi) L::_):=AI io (fun _ q_=>by rw[ip] at q_;exact q_)
  refine g0<|AP call9 C6 iq fun _ ir=>LK call7 (DO mb rg ar yc rq n m zz yy q mq bt ba cp fi tb wd qo lk (dQ fi) L (Ap (aQ n fi)) 0 fi 0 1 W 0 60 om om om om om om om om om om om om) ir fun _ it=>go [.s 25 4]<|AS (bF) (AW (x:=Ot 83) (y:=Ot 84) 0 0 0 0 kr kr kr ⟨rfl,rfl⟩ _) ?_
  have iu:=it.h.h.h.h.h.f.f.t15
  refine g0<|cP call7 (Fs mb rg ar yc rq n m zz yy q mq bt ba cp fi tb wd qo lk (L+1) 0 om om om om om om om om) iu ?_
  rintro v K _ (⟨rfl,rfl⟩) iv
  have be:=IW iv
  refine go [.s 25 10]<|AS (bF) (AW (x:=Ot 89) (y:=Ot 90) 0 0 0 0 kr kr kr ⟨rfl,rfl⟩ _)<|g0<|Bm ?_
  have iw:=be.h.h.c.c.t15
  refine go [rd 24 1 12 0 10 be]<|IL call10 (Ds mb rg ar yc rq n m zz yy q mq bt ba cp fi tb wd qo lk (dQ fi) (L+2) (Ap (aQ n fi)) 0 fi 0 1 (n*2+3) om om om om om) iw fun ok iy=> ?_
  obtain⟨B,iz⟩: ∃x:Nat,L+2+m=x:=⟨_,rfl⟩
  have ja:sat g _ (BU mb rg m (dQ fi) B::_):=AI iy (fun _ q_=>by rw[iz] at q_;exact q_)
  refine g0<|AP call9 C6 ja fun _ jb=>LK call7 (DO mb rg ar yc rq n m zz yy q mq bt ba cp fi tb wd qo lk (dQ fi) B (Ap (aQ n fi)) 0 fi 0 1 (n*2+3) 0 60 om om om om om om om om om om om om) jb fun _ jc=>go [.s 25 4]<|AS (bF) (AW (x:=Ot 83) (y:=Ot 84) 0 0 0 0 kr kr kr ⟨rfl,rfl⟩ _) ?_
  have jd:=jc.h.h.h.h.h.f.f.t15
  refine g0<|cP call7 (Fs mb rg ar yc rq n m zz yy q mq bt ba cp fi tb wd qo lk (B+1) 0 om om om om om om om om) jd ?_
  rintro v K _ (⟨rfl,rfl⟩) je
  have jf:=IW je
  refine go [.s 25 10]<|AS (bF) (AW (x:=Ot 89) (y:=Ot 90) 0 0 0 0 kr kr kr ⟨rfl,rfl⟩ _)<|g0<|Bm<|g0<|up ?_
  have jg:=jf.d.b.b.t15
  refine g0<|cP call11 (U3 mb rg ar yc rq n m zz yy q mq bt ba cp fi tb wd qo lk (B+2)) jg ?_
  rintro v K ol (⟨bf,bg,rfl,rfl⟩) jh
  have ji:=Wx jh
  refine g0 ?_
  obtain⟨ad,ae,jj⟩:=So om om ji.i.i.t16
  have jk:sat g _ (Cy yc n m 0 1 0 ad ae 1::_):=jj
  refine cP call13 (Jr mb rg ar yc rq n m zz yy q mq bt ba cp fi tb wd qo lk (B+2) ad ae 0 (Ak (Ap (aQ n fi)) 0 fi) 1 1 om om) jk.i.i.f.i.i.e.f.h.h.t16 ?_
  rintro v K oo (⟨bh,bi,bj,bk,bl,bm,bn,bo,rfl,rfl⟩) jl
  have jm:sat g _ (AU bh bi bj bk n m zz yy q mq bt ba cp fi bl bm bn bo::_):=jl
  refine DF call14 (bK bi bj bk n m zz yy q mq bt ba cp fi bl bm bn bo bh) jm.b.a.t19 fun _ bp=> ?_
  obtain⟨C,X⟩:=Av (j:=12) bp rfl om
  refine go [.v 29 1 (oJ .i64 (1:Int) 1),.s 29 5]<|AS (pV C) (Ft (Ot 102) (Operand.const (iV 0)) bf C 0 0 1 bg underlying44 6 0 X 0) ?_
  have af:=bp.l.t19
  have op:=Ca BW dc af
  have jn:=af.l.l.l.l.l.l.l.l.l.t19
  refine go [.r 29 7 C 5 [iV 1] ⟨CM 0 af rfl X BW 5 (iV 1) (show (G2 fi 1).T[0]? =some (⟨0,(1,(0:Int),fi),1,1⟩:At) from rfl) 5,trivial⟩]<|cP call13 (Jr mb rg ar yc rq n m zz yy q mq bt ba cp fi tb wd qo lk (B+2) ad ae 0 (Ak (Ap (aQ n fi)) 0 fi) 1 1 om om) jn ?_
  rintro v K oq (⟨bq,br,bs,bu,bv,bw,bx,bz,rfl,rfl⟩) jo
  have jp:sat g _ (AU bq br bs bu n m zz yy q mq bt ba cp fi bv bw bx bz::_):=jo
  refine DF call15 (bL br bs bu n m zz yy q mq bt ba cp fi bv bw bx bz bq) jp fun _ ag=>go [rd 31 1 17 0 1 ag,.s 32 4]<|AS (pV C) (Ft (Ot 121) (Operand.const (iV 0)) bf C 0 0 1 bg underlying44 6 0 X 0)<|go [.r 32 6 C 4 [iV 1] ⟨CM 12 ag rfl X BW 4 (iV 1) (show (G2 fi 1).T[0]? =some (⟨0,(1,(0:Int),fi),1,1⟩:At) from rfl) 4,trivial⟩]<|AP call12 HE ag fun _ jq=>g0 ?_
  exact AD _ [] jq.u.t1
 refine go [.v 17 0 (⟨.bool eb,bT,(Rj V)⟩)] ?_
 by_cases os:p≤3
 ·
  have jr:sat g _ (D2 rq q 0 0 fi::_):=AI I (fun _ q_=>by rw[TN om] at q_;exact q_)
  refine cP call7 (bJ mb rg ar yc rq n m zz yy q mq bt ba cp fi tb wd qo lk nr hf om om om om om om om om) jr.h.h.h.h.d.h.h.t13 ?_
  rintro v K _ (⟨rfl,rfl⟩) js
  have jt:=IW js
  refine go [.s 17 6]<|AS (bF) (AW (x:=Ot 64) (y:=Ot 65) 0 0 0 0 kr kr kr ⟨rfl,rfl⟩ _)<|g0<|LK call7 (U2 mb rg ar yc rq n m zz yy q mq bt ba cp fi tb wd qo lk (nr+1) hf om om) jt fun _ ju=>nP 34 [iV 0,iV 0] ju (fun ot _ jv=> ?_)
  refine sA [iV 0,iV 0] jv fun _ jw=> ?_
  have jx:=jw.e.c.c.t14
  refine g0<|cP call11 (U6 mb rg ar yc rq n m zz yy q mq bt ba cp fi tb wd qo lk (nr+2)) jx ?_
  rintro v K _ (⟨ou,ov,rfl,rfl⟩) jy
  have ca:=Wx jy
  refine g0<|DS 39 ?_
  have jz:=ca.j.j.c.c.t15
  refine go [rd 24 1 12 0 10 ca]<|IL call10 (Ds mb rg ar yc rq n m zz yy q mq bt ba cp fi tb wd qo lk (dQ fi) (nr+2) (Ap (aQ n fi)) 0 fi 0 1 p om om om om om) jz fun ow ka=> ?_
  obtain⟨M,kb⟩: ∃x:Nat,nr+2+m=x:=⟨_,rfl⟩
  have kc:sat g _ (BU mb rg m (dQ fi) M::_):=AI ka (fun _ q_=>by rw[kb] at q_;exact q_)
  refine g0<|AP call9 C6 kc fun _ ke=>LK call7 (RS mb rg ar yc rq n m zz yy q mq bt ba cp fi tb wd qo lk (dQ fi) M (Ap (aQ n fi)) fi 0 1 p 0 om om om om om om om om om) ke.x.d.d.d.d.t15 fun ox kf=> ?_
  have hb_:=lL n p
  obtain⟨Y,ah⟩: ∃x:Nat,pN n p=x:=⟨_,rfl⟩
  have kg:sat g _ (C8 yc n m 0 1 Y 0::_):=AI kf.b.t15 (fun _ q_=>by rw[ah] at q_;exact q_)
  have kh:sat g _ (Cw ar n m (Ap (aQ n fi)) 0 fi Y::_):=AI kg.c.t15 (fun _ q_=>by rw[ah] at q_;exact q_)
  rw[ah] at hb_
  refine go [.s 25 4]<|AS (bF) (AW (x:=Ot 83) (y:=Ot 84) 0 0 0 0 kr kr kr ⟨rfl,rfl⟩ _) ?_
  have ki:=kh.j.j.x.j.h.h.h.t15
  refine g0<|cP call7 (RR mb rg ar yc rq n m zz yy q mq bt ba cp fi tb wd qo lk (M+1) 0 hf om om om om om om om om) ki ?_
  rintro v K _ (⟨rfl,rfl⟩) kj
  have cb:=IW kj
  refine go [.s 25 10]<|AS (bF) (AW (x:=Ot 89) (y:=Ot 90) 0 0 0 0 kr kr kr ⟨rfl,rfl⟩ _)<|g0<|Bm ?_
  have kk:=cb.x.h.c.c.t15
  refine go [rd 24 1 12 0 10 cb]<|IL call10 (Ds mb rg ar yc rq n m zz yy q mq bt ba cp fi tb wd qo lk (dQ fi) (M+2) (Ap (aQ n fi)) 0 fi 0 1 Y om om om om om) kk fun oy kl=> ?_
  obtain⟨N,km⟩: ∃x:Nat,M+2+m=x:=⟨_,rfl⟩
  have kn:sat g _ (BU mb rg m (dQ fi) N::_):=AI kl (fun _ q_=>by rw[km] at q_;exact q_)
  refine g0<|AP call9 C6 kn fun _ ko=>LK call7 (DO mb rg ar yc rq n m zz yy q mq bt ba cp fi tb wd qo lk (dQ fi) N (Ap (aQ n fi)) 0 fi 0 1 Y 0 60 om om om om om om om om om om om om) ko fun _ kp=>go [.s 25 4]<|AS (bF) (AW (x:=Ot 83) (y:=Ot 84) 0 0 0 0 kr kr kr ⟨rfl,rfl⟩ _) ?_
  have kq:=kp.h.h.h.h.h.f.f.t15
  refine g0<|cP call7 (Fs mb rg ar yc rq n m zz yy q mq bt ba cp fi tb wd qo lk (N+1) 0 om om om om om om om om) kq ?_
  rintro v K _ (⟨rfl,rfl⟩) ks
  have cc:=IW ks
  refine go [.s 25 10]<|AS (bF) (AW (x:=Ot 89) (y:=Ot 90) 0 0 0 0 kr kr kr ⟨rfl,rfl⟩ _)<|g0<|Bm ?_
  have kt:=cc.h.h.c.c.t15
  refine go [rd 24 1 12 0 10 cc]<|IL call10 (Ds mb rg ar yc rq n m zz yy q mq bt ba cp fi tb wd qo lk (dQ fi) (N+2) (Ap (aQ n fi)) 0 fi 0 1 (n*2+3) om om om om om) kt fun oz ku=> ?_
  obtain⟨D,kw⟩: ∃x:Nat,N+2+m=x:=⟨_,rfl⟩
  have kx:sat g _ (BU mb rg m (dQ fi) D::_):=AI ku (fun _ q_=>by rw[kw] at q_;exact q_)
  refine g0<|AP call9 C6 kx fun _ ky=>LK call7 (DO mb rg ar yc rq n m zz yy q mq bt ba cp fi tb wd qo lk (dQ fi) D (Ap (aQ n fi)) 0 fi 0 1 (n*2+3) 0 60 om om om om om om om om om om om om) ky fun _ kz=>go [.s 25 4]<|AS (bF) (AW (x:=Ot 83) (y:=Ot 84) 0 0 0 0 kr kr kr ⟨rfl,rfl⟩ _) ?_
  have la:=kz.h.h.h.h.h.f.f.t15
  refine g0<|cP call7 (Fs mb rg ar yc rq n m zz yy q mq bt ba cp fi tb wd qo lk (D+1) 0 om om om om om om om om) la ?_
  rintro v K _ (⟨rfl,rfl⟩) lb
  have lc:=IW lb
  refine go [.s 25 10]<|AS (bF) (AW (x:=Ot 89) (y:=Ot 90) 0 0 0 0 kr kr kr ⟨rfl,rfl⟩ _)<|g0<|Bm<|g0<|up ?_
  have ld:=lc.d.b.b.t15
  refine g0<|cP call11 (U3 mb rg ar yc rq n m zz yy q mq bt ba cp fi tb wd qo lk (D+2)) ld ?_
  rintro v K pa (⟨cd,ce,rfl,rfl⟩) le
  have lf:=Wx le
  refine g0 ?_
  obtain⟨ai,aj,lg⟩:=So om om lf.i.i.t16
  have lh:sat g _ (Cy yc n m 0 1 0 ai aj 1::_):=lg
  refine cP call13 (Jr mb rg ar yc rq n m zz yy q mq bt ba cp fi tb wd qo lk (D+2) ai aj 0 (Ak (Ap (aQ n fi)) 0 fi) 1 1 om om) lh.i.i.f.i.i.e.f.h.h.t16 ?_
  rintro v K pb (⟨cf,cg,ch,ci,cj,ck,cl,cm,rfl,rfl⟩) li
  have lj:sat g _ (AU cf cg ch ci n m zz yy q mq bt ba cp fi cj ck cl cm::_):=li
  refine DF call14 (bK cg ch ci n m zz yy q mq bt ba cp fi cj ck cl cm cf) lj.b.a.t19 fun _ cn=> ?_
  obtain⟨E,Z⟩:=Av (j:=12) cn rfl om
  refine go [.v 29 1 (oJ .i64 (1:Int) 1),.s 29 5]<|AS (pV E) (Ft (Ot 102) (Operand.const (iV 0)) cd E 0 0 1 ce underlying44 6 0 Z 0) ?_
  have ak:=cn.l.t19
  have pc:=Ca BW dc ak
  have ll:=ak.l.l.l.l.l.l.l.l.l.t19
  refine go [.r 29 7 E 5 [iV 1] ⟨CM 0 ak rfl Z BW 5 (iV 1) (show (G2 fi 1).T[0]? =some (⟨0,(1,(0:Int),fi),1,1⟩:At) from rfl) 5,trivial⟩]<|cP call13 (Jr mb rg ar yc rq n m zz yy q mq bt ba cp fi tb wd qo lk (D+2) ai aj 0 (Ak (Ap (aQ n fi)) 0 fi) 1 1 om om) ll ?_
  rintro v K pd (⟨co,cq,cr,cs,ct,cu,cv,cw,rfl,rfl⟩) lm
  have ln:sat g _ (AU co cq cr cs n m zz yy q mq bt ba cp fi ct cu cv cw::_):=lm
  refine DF call15 (bL cq cr cs n m zz yy q mq bt ba cp fi ct cu cv cw co) ln fun _ al=>go [rd 31 1 17 0 1 al,.s 32 4]<|AS (pV E) (Ft (Ot 121) (Operand.const (iV 0)) cd E 0 0 1 ce underlying44 6 0 Z 0)<|go [.r 32 6 E 4 [iV 1] ⟨CM 12 al rfl Z BW 4 (iV 1) (show (G2 fi 1).T[0]? =some (⟨0,(1,(0:Int),fi),1,1⟩:At) from rfl) 4,trivial⟩]<|AP call12 HE al fun _ lo=>g0 ?_
  exact AD _ [] lo.u.t1
 have lq:sat g _ (F1 rq q::_):=AI I (fun _ q_=>by rw[bI om] at q_;exact q_)
 refine cP call7 (jW mb rg ar yc rq n m zz yy q mq bt ba cp fi tb wd qo lk nr hf om om om om om om om om om om) lq.h.h.h.h.d.h.h.t13 ?_
 rintro v K _ (⟨A,rfl,rfl⟩) ls
 have lu:=IW ls
 refine go [.s 17 6]<|AS (bF) (AW (x:=Ot 64) (y:=Ot 65) 0 0 0 0 kr kr kr ⟨rfl,rfl⟩ _) ?_
 have lv:=lu.c.b.b.t13
 refine g0<|IM call7 (jZ mb rg ar yc rq n m zz yy q mq bt ba cp fi tb wd qo lk (nr+1) hf om om) lv fun _ lx=>nP 34 [iV 0,iV 0] lx (fun pe _ ly=> ?_)
 refine sA [iV 7,iV 0] ly fun _ lz=> ?_
 have ma:=lz.e.c.c.t14
 refine g0<|cP call11 (U4 mb rg ar yc rq n m zz yy q mq bt ba cp fi tb wd qo lk (nr+2)) ma ?_
 rintro v K _ (⟨pf,pg,rfl,rfl⟩) mc
 have cx:=Wx mc
 refine go [.v 20 2 (oJ .i64 (1:Int) 1)]<|DS 39 ?_
 have md:=cx.j.j.c.c.t15
 refine go [rd 24 1 12 0 10 cx]<|IL call10 (Ds mb rg ar yc rq n m zz yy q mq bt ba cp fi tb wd qo lk (dQ fi) (nr+2) (Ap (aQ n fi)) 0 fi 0 1 p om om om om om) md fun ph me=> ?_
 obtain⟨O,mf⟩: ∃x:Nat,nr+2+m=x:=⟨_,rfl⟩
 have mg:sat g _ (BU mb rg m (dQ fi) O::_):=AI me (fun _ q_=>by rw[mf] at q_;exact q_)
 refine g0<|AP call9 C6 mg fun _ mh=>LK call7 (DO mb rg ar yc rq n m zz yy q mq bt ba cp fi tb wd qo lk (dQ fi) O (Ap (aQ n fi)) 0 fi 0 1 p A 60 om om om om om om om om om om om om) mh.h.d.d.d.d.t15 fun _ mi=>go [.s 25 4]<|AS (bF) (AW (x:=Ot 83) (y:=Ot 84) 0 0 0 0 kr kr kr ⟨rfl,rfl⟩ _) ?_
 have mj:=mi.j.j.x.j.h.f.f.t15
 refine g0<|cP call7 (HF mb rg ar yc rq n m zz yy q mq bt ba cp fi tb wd qo lk (O+1) A om om om om om om om om) mj ?_
 rintro v K _ (⟨rfl,rfl⟩) ml
 have cy:=IW ml
 refine go [.s 25 10]<|AS (bF) (AW (x:=Ot 89) (y:=Ot 90) 0 0 0 0 kr kr kr ⟨rfl,rfl⟩ _)<|g0<|Bm ?_
 have mm:=cy.h.h.c.c.t15
 refine go [rd 24 1 12 0 10 cy]<|IL call10 (Ds mb rg ar yc rq n m zz yy q mq bt ba cp fi tb wd qo lk (dQ fi) (O+2) (Ap (aQ n fi)) 0 fi 0 1 (n*2+3) om om om om om) mm fun pi mn=> ?_
 obtain⟨P,mo⟩: ∃x:Nat,O+2+m=x:=⟨_,rfl⟩
 have mp:sat g _ (BU mb rg m (dQ fi) P::_):=AI mn (fun _ q_=>by rw[mo] at q_;exact q_)
 refine g0<|AP call9 C6 mp fun _ mr=>LK call7 (DO mb rg ar yc rq n m zz yy q mq bt ba cp fi tb wd qo lk (dQ fi) P (Ap (aQ n fi)) 0 fi 0 1 (n*2+3) A 60 om om om om om om om om om om om om) mr fun _ ms=>go [.s 25 4]<|AS (bF) (AW (x:=Ot 83) (y:=Ot 84) 0 0 0 0 kr kr kr ⟨rfl,rfl⟩ _) ?_
 have mt:=ms.h.h.h.h.h.f.f.t15
 refine g0<|cP call7 (HF mb rg ar yc rq n m zz yy q mq bt ba cp fi tb wd qo lk (P+1) A om om om om om om om om) mt ?_
 rintro v K _ (⟨rfl,rfl⟩) mw
 have cz:=IW mw
 refine go [.s 25 10]<|AS (bF) (AW (x:=Ot 89) (y:=Ot 90) 0 0 0 0 kr kr kr ⟨rfl,rfl⟩ _)<|g0<|Bm ?_
 have mx:=cz.h.h.c.c.t15
 refine go [rd 24 1 12 0 10 cz]<|IL call10 (Ds mb rg ar yc rq n m zz yy q mq bt ba cp fi tb wd qo lk (dQ fi) (P+2) (Ap (aQ n fi)) 0 fi 0 1 (n*2+3) om om om om om) mx fun pj my=> ?_
 obtain⟨F,mz⟩: ∃x:Nat,P+2+m=x:=⟨_,rfl⟩
 have na:sat g _ (BU mb rg m (dQ fi) F::_):=AI my (fun _ q_=>by rw[mz] at q_;exact q_)
 refine g0<|AP call9 C6 na fun _ nb=>LK call7 (DO mb rg ar yc rq n m zz yy q mq bt ba cp fi tb wd qo lk (dQ fi) F (Ap (aQ n fi)) 0 fi 0 1 (n*2+3) A 60 om om om om om om om om om om om om) nb fun _ nc=>go [.s 25 4]<|AS (bF) (AW (x:=Ot 83) (y:=Ot 84) 0 0 0 0 kr kr kr ⟨rfl,rfl⟩ _) ?_
 have nd:=nc.h.h.h.h.h.f.f.t15
 refine g0<|cP call7 (HF mb rg ar yc rq n m zz yy q mq bt ba cp fi tb wd qo lk (F+1) A om om om om om om om om) nd ?_
 rintro v K _ (⟨rfl,rfl⟩) ne
 have nf:=IW ne
 refine go [.s 25 10]<|AS (bF) (AW (x:=Ot 89) (y:=Ot 90) 0 0 0 0 kr kr kr ⟨rfl,rfl⟩ _)<|g0<|Bm<|g0<|up ?_
 have ng:=nf.d.b.b.t15
 refine g0<|cP call11 (U4 mb rg ar yc rq n m zz yy q mq bt ba cp fi tb wd qo lk (F+2)) ng ?_
 rintro v K pk (⟨da,db,rfl,rfl⟩) nh
 have ni:=Wx nh
 refine g0 ?_
 obtain⟨am,an,nj⟩:=So om om ni.i.i.t16
 have nk:sat g _ (Cy yc n m 0 1 0 am an 1::_):=nj
 refine cP call13 (U5 mb rg ar yc rq n m zz yy q mq bt ba cp fi tb wd qo lk (F+2) am an A (Ak (Ap (aQ n fi)) 0 fi) 1 1 om om) nk.i.i.f.i.i.e.f.h.h.t16 ?_
 rintro v K pl (⟨dd,de,df,dg,dh,di,dj,dk,rfl,rfl⟩) nl
 have nm:sat g _ (AU dd de df dg n m zz yy q mq bt ba cp fi dh di dj dk::_):=nl
 refine cP call14 (rT de df dg n m zz yy q mq bt ba cp fi dh di dj dk dd) nm.b.a.t19 ?_
 rintro v K _ (⟨nn,no,rfl,rfl⟩) np
 have dl:=MG np
 obtain⟨G,aa⟩:=Av (j:=13) dl rfl om
 refine go [.v 29 1 (oJ .i64 (1:Int) 1),.s 29 5]<|AS (pV G) (Ft (Ot 102) (Operand.const (iV 0)) da G 0 0 1 db underlying44 6 0 aa 0) ?_
 have ao:=dl.m.t20
 have pm:=Ca BW dc ao
 have nq:=ao.m.m.m.m.m.m.m.m.m.t20
 refine go [.r 29 7 G 5 [iV 1] ⟨CM 0 ao rfl aa BW 5 (iV 1) (show (G2 fi 3).T[0]? =some (⟨0,(1,(0:Int),fi),3,1⟩:At) from rfl) 5,trivial⟩]<|cP call13 (U5 mb rg ar yc rq n m zz yy q mq bt ba cp fi tb wd qo lk (F+2) am an A (Ak (Ap (aQ n fi)) 0 fi) 1 1 om om) nq ?_
 rintro v K pn (⟨dm,dn,dp,dq,dr,ds,dt,du,rfl,rfl⟩) ns
 have nt:sat g _ (AU dm dn dp dq n m zz yy q mq bt ba cp fi dr ds dt du::_):=ns
 refine DF call15 (rU dn dp dq n m zz yy q mq bt ba cp fi dr ds dt du dm) nt fun _ Q=>go [rd 31 1 18 0 1 Q,rd 33 1 18 0 1 Q,.v 33 4 (⟨.bool eb,bT,(Rj V)⟩),.s 33 12]<|AS (pV G) (Ft (Ot 146) (Operand.const (iV 0)) da G 0 0 1 db underlying44 6 0 aa 0) ?_
 obtain⟨ap,dv⟩:=Av (j:=15) Q rfl om
 refine go [.r 33 14 G 4 [iV 3] ⟨CM 12 Q rfl aa BW 4 (iV 3) (show (G2 fi 3).T[0]? =some (⟨0,(1,(0:Int),fi),3,1⟩:At) from rfl) 4,trivial⟩,.v 33 19 (oJ .i64 (1:Int) 1),.s 33 24]<|AS (pV ap) (Ft (Ot 158) (Operand.const (iV 0)) nn ap 0 0 1 no underlying54 6 0 dv 0) ?_
 have aq:=Q.o.t23
 have po:=Ca TK dc aq
 refine go [.r 33 26 ap 0 [.string (St [120])] ⟨CM 0 aq rfl dv TK 0 (.string (St [120])) (show ([([120],1,(0:Int),fi,0,3)]:List (List UInt8×Int×Int×Int×Int×Int))[0]? =some ([120],1,(0:Int),fi,0,3) from rfl) 0,trivial⟩,.s 33 27]<|AS (.bool true) (DI (t:=9) (x:=Ot 161) (y:=(Operand.const (.string (St [120])))) (a:= [120]) (b:= [120]) kr kr kr true (decide_eq_true rfl) _)<|g0<|AP call12 HE aq fun _ nu=>g0 ?_
 exact AD _ [] nu.v.t1
end Go.Proofs.YtcgkoffnknpgjaaGreatDoor
