/-
  A number out of an array that is a value. No program in sight.
-/
import Derived.Test.YtcgkoffnknpgjaaGreatDoorBundle48
import Derived.Test.YtcgkoffnknpgjaaGreatDoorHq
import Derived.Test.YtcgkoffnknpgjaaGreatDoorSrg
import Derived.Test.YtcgkoffnknpgjaaGreatDoorMod
namespace Go.Proofs.YtcgkoffnknpgjaaGreatDoor
set_option linter.unusedVariables false
set_option linter.unusedSimpArgs false
open Tryz
set_option maxHeartbeats 4000000
section
section
variable {P : Program} {n : Nat} {l : Fr} {o : Oper}
theorem law_indexN{t e len:Nat}{x y:Operand}{cs:Array Value}{v:Value}{z:Int}{kk ke:IntKind}(ho:o.op= .index t x y)(ht:P.underlying t=some (.array len e))(he:P.underlying e=some (.int ke))(hs:(P.info? e).map (·.size)=some 1)(hx:fe n l x= .agg cs)(hy:fe n l y= .int kk z)(k:Nat)(hz:z=(k:Int))(hk:k<len)(hv:cs[k]? =some v)(w:World):
  (execOp (fe n l) o).run P w= .ok (.value v) w:=by
 subst hz
 cases hq:P.info? e with
 |none=>simp[hq] at hs
 |some inf=>
  have hs':inf.size=1:=by simpa [hq] using hs
  have h1:(k:Int)<(len:Int):=by omega
  have h2:k<cs.size:=(Array.getElem?_eq_some_iff.1 hv).1
  have h3:cs[k]=v:=(Array.getElem?_eq_some_iff.1 hv).2
  simp[execOp,ho,hx,hy,Instr.index,asIntOf,run_underlying ht,part,isAgg,run_underlying he,sizeOf,typeInfo,hq,hs',h1,h2,h3]
  try (intro h;omega)
end
end
theorem szcfg(zo zm zt zq zu zb zw zl:Int)(hf0:0≤zo)(hf1:0≤zm)(hf2:0≤zt)(hf3:0≤zq)(hf4:0≤zu)(hf5:0≤zb)(hf6:0≤zw)(hf7:0≤zl)(hf8:0≤ -zo+255)(hf9:0≤ -zm+255)(hf10:0≤ -zt+255)(hf11:0≤ -zq+255)(hf12:0≤ -zu+255)(hf13:0≤ -zb+255)(hf14:0≤ -zw+255)(hf15:0≤ -zl+255):HT prog 5 [.agg #[yV zo,yV zm,yV zt,yV zq,yV zu,yV zb,yV zw,yV zl]] [] (fun v K=> ∃fi:Int,v= .agg #[iV ((zo%16)+1),iV ((zm%4)+1),iV ((zt%8)+1),iV ((zt/8%4)+1),iV ((zq%4)+1),iV ((zu%8)+1),iV ((zb%4)+1),iV ((zw%4)+1),iV ((zw/4%16)+4),uV fi]∧K= []):=by
 refine hiS func5 ntmps5 fun g w0 R h0=>g0<|nP 23 [yV zo,yV zm,yV zt,yV zq,yV zu,yV zb,yV zw,yV zl] h0 (fun _ _ h12=> ?_)
 refine nP 26 [iV 0,iV 0,iV 0,iV 0,iV 0,iV 0,iV 0,iV 0,iV 0,uV 0] h12 (fun _ _ h15=> ?_)
 refine g0<|dw (fls [0,1,2,3,4,5,6,7,8,9,10,11,12,13,14,15,16,17,18,19,20,21,22,23,24,25,26,27,28,29,30,31,32,33,34,35,36,37,38,39,40,41,42,43,44,45,46,47,48,49,50,51,52] (Tr.an 53 Tr.nil)) h15 fun _ h17=> ?_
 have hb18:=rem_bd (a:=zo) (b:=16) om om
 refine go [rd 1 1 1 0 1 h17,.s 1 2]<|lw (yV (zo%16)) (fun _=>law_rem (t:=5) (x:=Ot 4) (y:=(Operand.const (yV 16))) kr zo 16 kr kr om (zo%16) (rem_ex om) _) ?_
 have hb19:=rem_bd (a:=zm) (b:=4) om om
 refine go [.v 1 3 (oIr (zo%16)),.v 1 4 (oI (1+(zo%16)) ((zo%16)+1)),rd 1 6 1 1 1 h17,.s 1 7]<|lw (yV (zm%4)) (fun _=>law_rem (t:=5) (x:=Ot 9) (y:=(Operand.const (yV 4))) kr zm 4 kr kr om (zm%4) (rem_ex om) _) ?_
 have hb20:=rem_bd (a:=zt) (b:=8) om om
 refine go [.v 1 8 (oIr (zm%4)),.v 1 9 (oI (1+(zm%4)) ((zm%4)+1)),rd 1 11 1 2 1 h17,.s 1 12]<|lw (yV (zt%8)) (fun _=>law_rem (t:=5) (x:=Ot 14) (y:=(Operand.const (yV 8))) kr zt 8 kr kr om (zt%8) (rem_ex om) _) ?_
 have hb21:=quo_bd (a:=zt) (b:=8) om om
 refine go [.v 1 13 (oIr (zt%8)),.v 1 14 (oI (1+(zt%8)) ((zt%8)+1)),rd 1 16 1 2 1 h17,.s 1 17]<|lw (yV (zt/8)) (fun _=>law_quo (t:=5) (x:=Ot 19) (y:=(Operand.const (yV 8))) kr zt 8 kr kr om (zt/8) (quo_u8 om om om) _) ?_
 have hb22:=rem_bd (a:=(zt/8)) (b:=4) om om
 refine lw (yV ((zt/8)%4)) (fun _=>law_rem (t:=5) (x:=Ot 20) (y:=(Operand.const (yV 4))) kr (zt/8) 4 kr kr om ((zt/8)%4) (rem_ex om) _) ?_
 have hb23:=rem_bd (a:=zq) (b:=4) om om
 refine go [.v 1 19 (oIr ((zt/8)%4)),.v 1 20 (oI (1+((zt/8)%4)) ((zt/8)%4+1)),rd 1 22 1 3 1 h17,.s 1 23]<|lw (yV (zq%4)) (fun _=>law_rem (t:=5) (x:=Ot 25) (y:=(Operand.const (yV 4))) kr zq 4 kr kr om (zq%4) (rem_ex om) _) ?_
 have hb24:=rem_bd (a:=zu) (b:=8) om om
 refine go [.v 1 24 (oIr (zq%4)),.v 1 25 (oI (1+(zq%4)) ((zq%4)+1)),rd 1 27 1 4 1 h17,.s 1 28]<|lw (yV (zu%8)) (fun _=>law_rem (t:=5) (x:=Ot 30) (y:=(Operand.const (yV 8))) kr zu 8 kr kr om (zu%8) (rem_ex om) _) ?_
 have hb25:=rem_bd (a:=zb) (b:=4) om om
 refine go [.v 1 29 (oIr (zu%8)),.v 1 30 (oI (1+(zu%8)) ((zu%8)+1)),rd 1 32 1 5 1 h17,.s 1 33]<|lw (yV (zb%4)) (fun _=>law_rem (t:=5) (x:=Ot 35) (y:=(Operand.const (yV 4))) kr zb 4 kr kr om (zb%4) (rem_ex om) _) ?_
 have hb26:=rem_bd (a:=zw) (b:=4) om om
 refine go [.v 1 34 (oIr (zb%4)),.v 1 35 (oI (1+(zb%4)) ((zb%4)+1)),rd 1 37 1 6 1 h17,.s 1 38]<|lw (yV (zw%4)) (fun _=>law_rem (t:=5) (x:=Ot 40) (y:=(Operand.const (yV 4))) kr zw 4 kr kr om (zw%4) (rem_ex om) _) ?_
 have hb27:=quo_bd (a:=zw) (b:=4) om om
 refine go [.v 1 39 (oIr (zw%4)),.v 1 40 (oI (1+(zw%4)) ((zw%4)+1)),rd 1 42 1 6 1 h17,.s 1 43]<|lw (yV (zw/4)) (fun _=>law_quo (t:=5) (x:=Ot 45) (y:=(Operand.const (yV 4))) kr zw 4 kr kr om (zw/4) (quo_u8 om om om) _) ?_
 have hb28:=rem_bd (a:=(zw/4)) (b:=16) om om
 refine lw (yV ((zw/4)%16)) (fun _=>law_rem (t:=5) (x:=Ot 46) (y:=(Operand.const (yV 16))) kr (zw/4) 16 kr kr om ((zw/4)%16) (rem_ex om) _) ?_
 have hb29:=rem_bd (a:=zl) (b:=2) om om
 refine go [.v 1 45 (oIr ((zw/4)%16)),.v 1 46 (oI (4+((zw/4)%16)) ((zw/4)%16+4)),rd 1 49 1 7 1 h17,.s 1 50]<|lw (yV (zl%2)) (fun _=>law_rem (t:=5) (x:=Ot 52) (y:=(Operand.const (yV 2))) kr zl 2 kr kr om (zl%2) (rem_ex om) _) ?_
 by_cases c30:(zl%2)=0
 ·
  refine lw (uV 1) (fun _=>law_indexN (kk:= .u8) (t:=64) (x:=Ot 50) (y:=Ot 53) (z:=(zl%2)) (cs:= #[uV 1,uV 4294967293]) kr underlying64 underlying24 kr kr kr 0 om dc rfl _)<|g0<|sB [iV ((zo%16)+1),iV ((zm%4)+1),iV ((zt%8)+1),iV ((zt/8)%4+1),iV ((zq%4)+1),iV ((zu%8)+1),iV ((zb%4)+1),iV ((zw%4)+1),iV ((zw/4)%16+4),uV 1] h17 fun _ h32=>⟨kd [],?_⟩
  refine g0 ?_
  exact en (.agg #[iV ((zo%16)+1),iV ((zm%4)+1),iV ((zt%8)+1),iV ((zt/8)%4+1),iV ((zq%4)+1),iV ((zu%8)+1),iV ((zb%4)+1),iV ((zw%4)+1),iV ((zw/4)%16+4),uV 1]) [rd 0 0 0 0 10 h32] ⟨_,_,rfl,⟨1,rfl,rfl⟩,h32.b.t1⟩
 refine lw (uV 4294967293) (fun _=>law_indexN (kk:= .u8) (t:=64) (x:=Ot 50) (y:=Ot 53) (z:=(zl%2)) (cs:= #[uV 1,uV 4294967293]) kr underlying64 underlying24 kr kr kr 1 om dc rfl _)<|g0<|sB [iV ((zo%16)+1),iV ((zm%4)+1),iV ((zt%8)+1),iV ((zt/8)%4+1),iV ((zq%4)+1),iV ((zu%8)+1),iV ((zb%4)+1),iV ((zw%4)+1),iV ((zw/4)%16+4),uV 4294967293] h17 fun _ h35=>⟨kd [],?_⟩
 refine g0 ?_
 exact en (.agg #[iV ((zo%16)+1),iV ((zm%4)+1),iV ((zt%8)+1),iV ((zt/8)%4+1),iV ((zq%4)+1),iV ((zu%8)+1),iV ((zb%4)+1),iV ((zw%4)+1),iV ((zw/4)%16+4),uV 4294967293]) [rd 0 0 0 0 10 h35] ⟨_,_,rfl,⟨4294967293,rfl,rfl⟩,h35.b.t1⟩
theorem mcnewR(n m:Nat)(zz yy:Int)(q:Nat)(mq bt ba cp fi:Int)(gs:Nat)(hG:Gn fi gs)(hf0:0≤(n:Int)-1)(hf1:0≤ -(n:Int)+256)(hf2:0≤(m:Int)-1)(hf3:0≤ -(m:Int)+4)(hf4:0≤zz-1)(hf5:0≤ -zz+64)(hf6:0≤yy-1)(hf7:0≤ -yy+64)(hf8:0≤(q:Int)-1)(hf9:0≤ -(q:Int)+64)(hf10:0≤mq-1)(hf11:0≤ -mq+256)(hf12:0≤bt-1)(hf13:0≤ -bt+64)(hf14:0≤ba-1)(hf15:0≤cp-ba)(hf16:0≤ -cp+1048576)(hf17:0≤fi-1)(hf18:0≤ -fi+4294967295):HT prog 6 [Value.agg #[iV n,iV m,iV zz,iV yy,iV q,iV mq,iV bt,iV ba,iV cp,uV fi]] [] (fun v K=> ∃mb:Nat,∃rg:Nat,∃ar:Nat,∃yc:Nat,∃rq:Nat,∃tb:Nat,∃wd:Nat,∃qo:Nat,∃lk:Nat,v=Value.tuple #[pV mb,iV 0]∧K= [Mch mb rg m (DK fi gs 0) 0,Cl rg [pV ar,pV yc,pV rq,iV n,iV m,iV zz,iV yy,iV q,iV mq,iV bt,iV ba,iV cp,uV fi,pV tb,pV wd,pV qo,pV lk] 84,Ar0 ar n m (AK n fi gs 0),Cy yc n m 0 0 0 0 (n:Int) 0,Rq0 rq q 0,TW tb 256 (SK fi gs 0),Wd wd (WK fi gs 0),Cl qo [iV mq,Value.pointer none] 191,Rpo lk 0 (EK fi gs 0)]):=by
 have h:=mcnew n m zz yy q mq bt ba cp fi om om om om om om om om om om om om om om om om om om om
 rw[show (⟨List.replicate 256 (0,fi),[],[]⟩:Ts)=SK fi gs 0 from by unfold SK;rw[ak_zero hG];rfl,←ak_zero (N:=n) hG,wk_zero hG] at h
 exact h
def vBl(b:Bool):Value:= .bool b
theorem keyokD:KeyOk prog 39:=by
 have hu:prog.underlying 39=some _:=underlying39
 refine⟨fun a b w=> ?_,fun a e w=> ?_,⟨_,underlying39⟩⟩
 · obtain⟨a0,a1,a2⟩:=a
   obtain⟨c0,c1,c2⟩:=b
   show (Op.equalIn 10000 39 (.agg #[iV a0,iV a1,uV a2]) (.agg #[iV c0,iV c1,uV c2])).run prog w= .ok (decide ((a0,a1,a2)=(c0,c1,c2))) w
   by_cases h0:a0=c0
   · by_cases h1:a1=c1
     · by_cases h2:a2=c2
       · subst h0;subst h1;subst h2;simp[go_sem]
       · subst h0;subst h1;simp[go_sem,h2]
     · subst h0;simp[go_sem,h1]
   · simp[go_sem,h0]
 · have h: ∀d:Nat,(Instr.checkKey e (d+1+1) 39 (kv a)).run prog w= .ok () w:=fun d=>by
    simp[kv,Instr.checkKey,go_sem]
   exact h 9998
theorem kyD:KyOk prog 39 kv:=kyOf keyokD
def szN(k z:Int):Nat:=(z%k).toNat+1
theorem szN_bd{k z:Int}(hk:1≤k):1≤szN k z∧(szN k z:Int)≤k:=by
 have h1:=Int.emod_nonneg z (show k≠0 by omega)
 have h2:=Int.emod_lt_of_pos z (show 0<k by omega)
 unfold szN
 omega
theorem szN_eq{k z:Int}(hk:1≤k):z%k+1=(szN k z:Int):=by
 have h1:=Int.emod_nonneg z (show k≠0 by omega)
 unfold szN
 omega
theorem szcfgN(zo zm zt zq zu zb zw zl:Int)(hf0:0≤zo)(hf1:0≤zm)(hf2:0≤zt)(hf3:0≤zq)(hf4:0≤zu)(hf5:0≤zb)(hf6:0≤zw)(hf7:0≤zl)(hf8:0≤ -zo+255)(hf9:0≤ -zm+255)(hf10:0≤ -zt+255)(hf11:0≤ -zq+255)(hf12:0≤ -zu+255)(hf13:0≤ -zb+255)(hf14:0≤ -zw+255)(hf15:0≤ -zl+255):HT prog 5 [Value.agg #[yV zo,yV zm,yV zt,yV zq,yV zu,yV zb,yV zw,yV zl]] [] (fun v K=> ∃fi:Int,v=Value.agg #[iV (((szN 16 zo):Nat):Int),iV (((szN 4 zm):Nat):Int),iV ((zt%8)+1),iV ((zt/8%4)+1),iV (((szN 4 zq):Nat):Int),iV ((zu%8)+1),iV ((zb%4)+1),iV ((zw%4)+1),iV ((zw/4%16)+4),uV fi]∧K= []):=by
 have h:=szcfg zo zm zt zq zu zb zw zl om om om om om om om om om om om om om om om om
 rw[szN_eq (k:=16) om,szN_eq (k:=4) (z:=zm) om,szN_eq (k:=4) (z:=zq) om] at h
 exact h
theorem szcfgR(zo zm zt zq zu zb zw zl:Int)(hf0:0≤zo)(hf1:0≤zm)(hf2:0≤zt)(hf3:0≤zq)(hf4:0≤zu)(hf5:0≤zb)(hf6:0≤zw)(hf7:0≤zl)(hf8:0≤ -zo+255)(hf9:0≤ -zm+255)(hf10:0≤ -zt+255)(hf11:0≤ -zq+255)(hf12:0≤ -zu+255)(hf13:0≤ -zb+255)(hf14:0≤ -zw+255)(hf15:0≤ -zl+255):HT prog 5 [Value.agg #[yV zo,yV zm,yV zt,yV zq,yV zu,yV zb,yV zw,yV zl]] [] (fun v K=> ∃(n m q:Nat) (zz yy mq bt ba cp fi:Int),((n:Int)=zo%16+1∧(1≤m∧m≤4)∧(1≤q∧q≤4)∧(1≤zz∧zz≤8)∧(1≤yy∧yy≤4)∧(1≤mq∧mq≤8)∧(1≤bt∧bt≤4)∧(1≤ba∧ba≤4)∧(4≤cp∧cp≤19))∧v=Value.agg #[iV n,iV m,iV zz,iV yy,iV q,iV mq,iV bt,iV ba,iV cp,uV fi]∧K= []):=by
 refine(szcfgN zo zm zt zq zu zb zw zl om om om om om om om om om om om om om om om om).post ?_
 rintro v K ⟨fi,rfl,rfl⟩
 have h1:=szN_bd (k:=4) (z:=zm) om
 have h2:=szN_bd (k:=4) (z:=zq) om
 have h3:=szN_eq (k:=16) (z:=zo) om
 exact⟨_,⟨_,_,_,_,_,_,_,_,_,fi,⟨by omega,by omega,by omega,by omega,by omega,by omega,by omega,by omega,by omega⟩,rfl,rfl⟩,fun _ _ _ h=>h⟩
section
def SP(fi:Int)(gs k:Nat):Ts:=SO fi gs k (((k/gs:Nat):Int),fi+((k%gs:Nat):Int))
def WY(fi:Int)(gs k:Nat):Wst:=WR fi gs k (k:Int)
def BK(fi:Int)(gs k:Nat):List (Ky×Bool):=MK (fun _=>true) fi gs k
structure Rnd (fi:Int) (gs k s:Nat) (g z:Int) (j:Nat):Prop where
 es:k/gs=s
 eg:fi+((k%gs:Nat):Int)=g
 ez:(k:Int)+1=z
 ej:k+1=j
section
variable {fi : Int} {gs k s j : Nat} {g z : Int} {N : Nat}
theorem rd_out(h:Rnd fi gs k s g z j):oK fi gs k=(1,(s:Int),g):=by
 obtain⟨rfl,rfl,rfl,rfl⟩:=h
 rfl
theorem rd_gen(hG:Gn fi gs)(h:Rnd fi gs k s g z j):fi≤g∧g≤4294967295∧1≤fi:=by
 have h1:=gn_z (k:=k) hG
 obtain⟨rfl,rfl,rfl,rfl⟩:=h
 omega
theorem rd_obj(hG:Gn fi gs)(h:Rnd fi gs k s g z j)(hs:s<8):objH ((s:Int),g):=by
 have h1:=rd_gen hG h
 unfold objH
 simp only[]
 omega
theorem rd_A(h:Rnd fi gs k s g z j)(hs:s<N):freeS (AK N fi gs k)=some (s,g):=by
 obtain⟨rfl,rfl,rfl,rfl⟩:=h
 exact ak_free hs
theorem rd_room(h:Rnd fi gs k s g z j)(hs:s<N):1≤(inS 0 (AK N fi gs k) 0).length:=by
 obtain⟨rfl,rfl,rfl,rfl⟩:=h
 exact ak_room hs
theorem rd_full(h:Rnd fi gs k s g z j)(hs:N≤s):(inS 0 (AK N fi gs k) 0).length=0:=by
 obtain⟨rfl,rfl,rfl,rfl⟩:=h
 rw[ak_full hs]
 rfl
theorem rd_give(hG:Gn fi gs)(h:Rnd fi gs k s g z j)(hs:s<N):giveA (takeA (AK N fi gs k)) s g=AK N fi gs j:=by
 obtain⟨rfl,rfl,rfl,rfl⟩:=h
 exact ak_next hG hs
theorem rd_wE(h:Rnd fi gs k s g z j)(hs:s<8)(hk:k≤65535):acqE (WK fi gs k) 1 (k:Int)=0:=by
 obtain⟨rfl,rfl,rfl,rfl⟩:=h
 exact wk_acqE hs om
theorem rd_wO(h:Rnd fi gs k s g z j)(hs:s<8)(hk:k≤65535):acqO (WK fi gs k) 1 (k:Int)=(1,(s:Int),g):=by
 obtain⟨rfl,rfl,rfl,rfl⟩:=h
 exact wk_acqO hs om
theorem rd_wS(h:Rnd fi gs k s g z j)(hs:s<8)(hk:k≤65535):acqS (WK fi gs k) 1 (k:Int)=WY fi gs k:=by
 obtain⟨rfl,rfl,rfl,rfl⟩:=h
 exact wk_acqS hs om
theorem rd_oE(hG:Gn fi gs)(h:Rnd fi gs k s g z j)(hs:s<8)(hk:k<2000):topE (SK fi gs k) (1,(s:Int),g) [120] ((s:Int),g)=0:=by
 have h0:=rd_obj hG h hs
 rw[←rd_out h]
 obtain⟨rfl,rfl,rfl,rfl⟩:=h
 exact sk_opnE hG hs hk h0
theorem rd_oD(hG:Gn fi gs)(h:Rnd fi gs k s g z j)(hs:s<8)(hk:k<2000):opnD (SK fi gs k) (1,(s:Int),g) [120] ((s:Int),g)=(1,(s:Int),g):=by
 have h0:=rd_obj hG h hs
 rw[←rd_out h]
 obtain⟨rfl,rfl,rfl,rfl⟩:=h
 exact sk_opnD hG hs hk h0
theorem rd_oS(hG:Gn fi gs)(h:Rnd fi gs k s g z j)(hs:s<8)(hk:k<2000):opnS (SK fi gs k) (1,(s:Int),g) [120] ((s:Int),g)=SP fi gs k:=by
 have h0:=rd_obj hG h hs
 rw[←rd_out h]
 obtain⟨rfl,rfl,rfl,rfl⟩:=h
 exact sk_opnS hG hs hk h0
theorem rd_eN(hG:Gn fi gs)(h:Rnd fi gs k s g z j):gget (EK fi gs k) (1,(s:Int),g)=none:=by rw[←rd_out h];exact ek_none hG
theorem rd_eO(hG:Gn fi gs)(h:Rnd fi gs k s g z j):gset (EK fi gs k) (1,(s:Int),g) ([120], -1,0,0,2)=EO fi gs k:=by rw[←rd_out h];exact ek_open hG
theorem rd_eG(hG:Gn fi gs)(h:Rnd fi gs k s g z j):gget (EO fi gs k) (1,(s:Int),g)=some ([120], -1,0,0,2):=by rw[←rd_out h];exact eo_some hG
theorem rd_eT(hG:Gn fi gs)(h:Rnd fi gs k s g z j):gset (EO fi gs k) (1,(s:Int),g) ([120],(k:Int),0,1,3)=EK fi gs j:=by
 rw[←rd_out h]
 obtain⟨rfl,rfl,rfl,rfl⟩:=h
 exact eo_try hG
theorem rd_D(h:Rnd fi gs k s g z j):DK fi gs k++ [(1,(s:Int),g)]=DK fi gs j:=by
 rw[←rd_out h]
 obtain⟨rfl,rfl,rfl,rfl⟩:=h
 exact dk_next
theorem rd_Di(h:Rnd fi gs k s g z j){m:Nat}(hm:k<m):(DK fi gs m)[k]? =some (1,(s:Int),g):=by
 rw[←rd_out h]
 exact dk_at hm
theorem rd_bN(hG:Gn fi gs)(h:Rnd fi gs k s g z j):gget (BK fi gs k) (1,(s:Int),g)=none:=by rw[←rd_out h];exact mk_none hG (Nat.le_refl _)
theorem rd_bS(hG:Gn fi gs)(h:Rnd fi gs k s g z j):gset (BK fi gs k) (1,(s:Int),g) true=BK fi gs j:=by
 have h1:=rd_bN hG h
 rw[gset_new h1,←rd_out h]
 obtain⟨rfl,rfl,rfl,rfl⟩:=h
 exact mk_next
theorem rd_f(hG:Gn fi gs)(h:Rnd fi gs k s g z j)(hs:s<8):fndE (SP fi gs k) (1,(s:Int),g)=0:=by
 rw[←rd_out h]
 obtain⟨rfl,rfl,rfl,rfl⟩:=h
 exact(so_fnd hG hs).1
theorem rd_n(hG:Gn fi gs)(h:Rnd fi gs k s g z j)(hs:s<8):(fndX (SP fi gs k) (1,(s:Int),g)).num=z:=by
 rw[←rd_out h]
 obtain⟨rfl,rfl,rfl,rfl⟩:=h
 exact so_num hG hs
theorem rd_l(hG:Gn fi gs)(h:Rnd fi gs k s g z j)(hs:s<8):clsL (SP fi gs k) (1,(s:Int),g)=true:=by
 rw[←rd_out h]
 obtain⟨rfl,rfl,rfl,rfl⟩:=h
 exact(so_cls hG hs).2
theorem rd_c(hG:Gn fi gs)(h:Rnd fi gs k s g z j)(hs:s<8):clsS (SP fi gs k) (1,(s:Int),g)=SC fi gs k:=by
 rw[←rd_out h]
 obtain⟨rfl,rfl,rfl,rfl⟩:=h
 exact(so_cls hG hs).1
theorem rd_rs(h:Rnd fi gs k s g z j):(⟨(1,(s:Int),g),1,0,0,0,[120]⟩:Rs)=rK fi gs 1 0 k:=by
 rw[←rd_out h]
 rfl
theorem rd_rs2(h:Rnd fi gs k s g z j):(⟨(1,(s:Int),g),2,1,0,0,[120]⟩:Rs)=rK fi gs 2 1 k:=by
 rw[←rd_out h]
 rfl
theorem rd_g(h:Rnd fi gs k s g z j):getR (SC fi gs k) z=⟨(1,(s:Int),g),1,0,0,0,[120]⟩:=by
 rw[rd_rs h,←h.ez]
 exact sc_get.1
theorem rd_e(h:Rnd fi gs k s g z j):nE (SC fi gs k) z=0:=by
 rw[←h.ez]
 exact sc_get.2
theorem rd_x(hG:Gn fi gs)(h:Rnd fi gs k s g z j)(hs:s<8):setE (SC fi gs k) z ⟨(1,(s:Int),g),2,1,0,0,[120]⟩=0:=by
 rw[rd_rs2 h]
 obtain⟨rfl,rfl,rfl,rfl⟩:=h
 exact(sc_set hG hs).1
theorem rd_y(hG:Gn fi gs)(h:Rnd fi gs k s g z j)(hs:s<8):setS (SC fi gs k) z ⟨(1,(s:Int),g),2,1,0,0,[120]⟩=SD fi gs k:=by
 rw[rd_rs2 h]
 obtain⟨rfl,rfl,rfl,rfl⟩:=h
 exact(sc_set hG hs).2
theorem rd_now:(WY fi gs k).now=0:=rfl
theorem rd_due(h:Rnd fi gs k s g z j){bt:Int}(hb:1≤bt):dueB (SD fi gs k) (WY fi gs k).now bt= [z]:=by
 rw[←h.ez]
 exact sd_due hb
theorem rd_rok(c:Cf)(hG:Gn fi gs)(h:Rnd fi gs k s g z j)(hs:s<8)(hk:k<2000):RunOk c (WY fi gs k).now (SD fi gs k,WY fi gs k) [z]:=by
 obtain⟨rfl,rfl,rfl,rfl⟩:=h
 exact sd_runok c hG hs om
theorem rd_run(c:Cf)(hG:Gn fi gs)(h:Rnd fi gs k s g z j)(hs:s<8)(hk:k<2000):runB c (WY fi gs k).now (SD fi gs k,WY fi gs k) [z]=(SK fi gs j,WK fi gs j):=by
 obtain⟨rfl,rfl,rfl,rfl⟩:=h
 exact sd_run c hG hs om
theorem rd_ats(c:Cf)(hG:Gn fi gs)(h:Rnd fi gs k s g z j)(hs:s<8)(hk:k<2000):atsB c (WY fi gs k).now (SD fi gs k,WY fi gs k) [z]= [(⟨0,(1,(s:Int),g),1,1⟩:At)]:=by
 rw[←rd_out h]
 obtain⟨rfl,rfl,rfl,rfl⟩:=h
 exact sd_ats c hG hs om
theorem rd_stale(hG:Gn fi gs)(h:Rnd fi gs k s g z j)(hs:s<8){m:Nat}:fndE (SK fi gs m) (1,(s:Int),g)=7:=by
 rw[←rd_out h]
 obtain⟨rfl,rfl,rfl,rfl⟩:=h
 exact sk_stale hG hs
theorem rd_T(h:Rnd fi gs k s g z j){m:Nat}(hm:k<m):(WK fi gs m).T[k]? =some (⟨0,(1,(s:Int),g),1,1⟩:At):=by
 rw[←rd_out h]
 show (TK fi gs m)[k]? =_
 unfold TK
 rw[List.getElem?_map,List.getElem?_range hm]
 rfl
theorem sk_len(fi:Int)(gs k:Nat):(SK fi gs k).R.length=k:=rk_len ..
theorem sk_room(hs:k/gs<8):1≤(inS 0 (SK fi gs k).A 0).length:=ak_room (N:=256) (fi:=fi) om
theorem wk_tlen(fi:Int)(gs k:Nat):(WK fi gs k).T.length=k:=tk_len ..
theorem ng_more{n ng:Nat}(hg:1≤gs)(hn:(n:Int)*(gs:Int)=(ng:Int))(h:k/gs<n):k+1≤ng:=by
 have h1:n*gs=ng:=by exact_mod_cast hn
 have:=(Nat.div_lt_iff_lt_mul om).1 h
 omega
theorem ng_less{n ng:Nat}(hg:1≤gs)(hn:(n:Int)*(gs:Int)=(ng:Int))(h:k<ng):k/gs<n:=by
 have h1:n*gs=ng:=by exact_mod_cast hn
 exact(Nat.div_lt_iff_lt_mul om).2 om
theorem ng_max{n ng:Nat}(hn:(n:Int)*(gs:Int)=(ng:Int))(h1:n≤8)(h2:gs≤3):ng≤24:=by
 have h3:n*gs=ng:=by exact_mod_cast hn
 have:=Nat.mul_le_mul h1 h2
 omega
theorem rd_lt{n ng:Nat}(h:Rnd fi gs k s g z j)(hg:1≤gs)(hn:(n:Int)*(gs:Int)=(ng:Int))(hk:k<ng)(h8:n≤8):s<8:=by
 have h1:=ng_less hg hn hk
 rw[h.es] at h1
 omega
theorem rd_end{n ng:Nat}(h:Rnd fi gs k s g z j)(hg:1≤gs)(hn:(n:Int)*(gs:Int)=(ng:Int))(hs:n≤s):ng≤k:=by
 rcases Nat.lt_or_ge k ng with h1|h1
 · have h2:=ng_less hg hn h1
   rw[h.es] at h2
   omega
 · exact h1
end
end
section
structure RtF (N gs:Nat) (fi:Int) (fA:Nat→List Sl2) (fS fP fC fQ:Nat→Ts) (fW fY:Nat→Wst) (fE fO:Nat→KlT) (fD:Nat→List Ky) (fB:Nat→List (Ky×Bool)):Prop where
 eA:fA=AK N fi gs
 eS:fS=SK fi gs
 eP:fP=SP fi gs
 eC:fC=SC fi gs
 eQ:fQ=SD fi gs
 eW:fW=WK fi gs
 eY:fY=WY fi gs
 eE:fE=EK fi gs
 eO:fO=EO fi gs
 eD:fD=DK fi gs
 eB:fB=BK fi gs
section
variable {fi : Int} {gs k s j : Nat} {g z : Int} {N : Nat} {fA : Nat → List Sl2} {fS fP fC fQ : Nat → Ts} {fW fY : Nat → Wst} {fE fO : Nat → KlT} {fD : Nat → List Ky} {fB : Nat → List (Ky × Bool)}
theorem rf_A(H:RtF N gs fi fA fS fP fC fQ fW fY fE fO fD fB)(h:Rnd fi gs k s g z j)(hs:s<N):freeS (fA k)=some (s,g):=by
 obtain⟨rfl,rfl,rfl,rfl,rfl,rfl,rfl,rfl,rfl,rfl,rfl⟩:=H
 exact rd_A h hs
theorem rf_room(H:RtF N gs fi fA fS fP fC fQ fW fY fE fO fD fB)(h:Rnd fi gs k s g z j)(hs:s<N):1≤(inS 0 (fA k) 0).length:=by
 obtain⟨rfl,rfl,rfl,rfl,rfl,rfl,rfl,rfl,rfl,rfl,rfl⟩:=H
 exact rd_room h hs
theorem rf_full(H:RtF N gs fi fA fS fP fC fQ fW fY fE fO fD fB)(h:Rnd fi gs k s g z j)(hs:N≤s):(inS 0 (fA k) 0).length=0:=by
 obtain⟨rfl,rfl,rfl,rfl,rfl,rfl,rfl,rfl,rfl,rfl,rfl⟩:=H
 exact rd_full h hs
theorem rf_give(H:RtF N gs fi fA fS fP fC fQ fW fY fE fO fD fB)(hG:Gn fi gs)(h:Rnd fi gs k s g z j)(hs:s<N):giveA (takeA (fA k)) s g=fA j:=by
 obtain⟨rfl,rfl,rfl,rfl,rfl,rfl,rfl,rfl,rfl,rfl,rfl⟩:=H
 exact rd_give hG h hs
theorem rf_wE(H:RtF N gs fi fA fS fP fC fQ fW fY fE fO fD fB)(h:Rnd fi gs k s g z j)(hs:s<8)(hk:k≤65535):acqE (fW k) 1 (k:Int)=0:=by
 obtain⟨rfl,rfl,rfl,rfl,rfl,rfl,rfl,rfl,rfl,rfl,rfl⟩:=H
 exact rd_wE h hs hk
theorem rf_wO(H:RtF N gs fi fA fS fP fC fQ fW fY fE fO fD fB)(h:Rnd fi gs k s g z j)(hs:s<8)(hk:k≤65535):acqO (fW k) 1 (k:Int)=(1,(s:Int),g):=by
 obtain⟨rfl,rfl,rfl,rfl,rfl,rfl,rfl,rfl,rfl,rfl,rfl⟩:=H
 exact rd_wO h hs hk
theorem rf_wS(H:RtF N gs fi fA fS fP fC fQ fW fY fE fO fD fB)(h:Rnd fi gs k s g z j)(hs:s<8)(hk:k≤65535):acqS (fW k) 1 (k:Int)=fY k:=by
 obtain⟨rfl,rfl,rfl,rfl,rfl,rfl,rfl,rfl,rfl,rfl,rfl⟩:=H
 exact rd_wS h hs hk
theorem rf_oE(H:RtF N gs fi fA fS fP fC fQ fW fY fE fO fD fB)(hG:Gn fi gs)(h:Rnd fi gs k s g z j)(hs:s<8)(hk:k<2000):topE (fS k) (1,(s:Int),g) [120] ((s:Int),g)=0:=by
 obtain⟨rfl,rfl,rfl,rfl,rfl,rfl,rfl,rfl,rfl,rfl,rfl⟩:=H
 exact rd_oE hG h hs hk
theorem rf_oD(H:RtF N gs fi fA fS fP fC fQ fW fY fE fO fD fB)(hG:Gn fi gs)(h:Rnd fi gs k s g z j)(hs:s<8)(hk:k<2000):opnD (fS k) (1,(s:Int),g) [120] ((s:Int),g)=(1,(s:Int),g):=by
 obtain⟨rfl,rfl,rfl,rfl,rfl,rfl,rfl,rfl,rfl,rfl,rfl⟩:=H
 exact rd_oD hG h hs hk
theorem rf_oS(H:RtF N gs fi fA fS fP fC fQ fW fY fE fO fD fB)(hG:Gn fi gs)(h:Rnd fi gs k s g z j)(hs:s<8)(hk:k<2000):opnS (fS k) (1,(s:Int),g) [120] ((s:Int),g)=fP k:=by
 obtain⟨rfl,rfl,rfl,rfl,rfl,rfl,rfl,rfl,rfl,rfl,rfl⟩:=H
 exact rd_oS hG h hs hk
theorem rf_eN(H:RtF N gs fi fA fS fP fC fQ fW fY fE fO fD fB)(hG:Gn fi gs)(h:Rnd fi gs k s g z j):gget (fE k) (1,(s:Int),g)=none:=by
 obtain⟨rfl,rfl,rfl,rfl,rfl,rfl,rfl,rfl,rfl,rfl,rfl⟩:=H
 exact rd_eN hG h
theorem rf_eO(H:RtF N gs fi fA fS fP fC fQ fW fY fE fO fD fB)(hG:Gn fi gs)(h:Rnd fi gs k s g z j):gset (fE k) (1,(s:Int),g) ([120], -1,0,0,2)=fO k:=by
 obtain⟨rfl,rfl,rfl,rfl,rfl,rfl,rfl,rfl,rfl,rfl,rfl⟩:=H
 exact rd_eO hG h
theorem rf_eG(H:RtF N gs fi fA fS fP fC fQ fW fY fE fO fD fB)(hG:Gn fi gs)(h:Rnd fi gs k s g z j):gget (fO k) (1,(s:Int),g)=some ([120], -1,0,0,2):=by
 obtain⟨rfl,rfl,rfl,rfl,rfl,rfl,rfl,rfl,rfl,rfl,rfl⟩:=H
 exact rd_eG hG h
theorem rf_eT(H:RtF N gs fi fA fS fP fC fQ fW fY fE fO fD fB)(hG:Gn fi gs)(h:Rnd fi gs k s g z j):gset (fO k) (1,(s:Int),g) ([120],(k:Int),0,1,3)=fE j:=by
 obtain⟨rfl,rfl,rfl,rfl,rfl,rfl,rfl,rfl,rfl,rfl,rfl⟩:=H
 exact rd_eT hG h
theorem rf_D(H:RtF N gs fi fA fS fP fC fQ fW fY fE fO fD fB)(h:Rnd fi gs k s g z j):fD k++ [(1,(s:Int),g)]=fD j:=by
 obtain⟨rfl,rfl,rfl,rfl,rfl,rfl,rfl,rfl,rfl,rfl,rfl⟩:=H
 exact rd_D h
theorem rf_Di(H:RtF N gs fi fA fS fP fC fQ fW fY fE fO fD fB)(h:Rnd fi gs k s g z j){m:Nat}(hm:k<m):(fD m)[k]? =some (1,(s:Int),g):=by
 obtain⟨rfl,rfl,rfl,rfl,rfl,rfl,rfl,rfl,rfl,rfl,rfl⟩:=H
 exact rd_Di h hm
theorem rf_bN(H:RtF N gs fi fA fS fP fC fQ fW fY fE fO fD fB)(hG:Gn fi gs)(h:Rnd fi gs k s g z j):gget (fB k) (1,(s:Int),g)=none:=by
 obtain⟨rfl,rfl,rfl,rfl,rfl,rfl,rfl,rfl,rfl,rfl,rfl⟩:=H
 exact rd_bN hG h
theorem rf_bS(H:RtF N gs fi fA fS fP fC fQ fW fY fE fO fD fB)(hG:Gn fi gs)(h:Rnd fi gs k s g z j):gset (fB k) (1,(s:Int),g) true=fB j:=by
 obtain⟨rfl,rfl,rfl,rfl,rfl,rfl,rfl,rfl,rfl,rfl,rfl⟩:=H
 exact rd_bS hG h
theorem rf_f(H:RtF N gs fi fA fS fP fC fQ fW fY fE fO fD fB)(hG:Gn fi gs)(h:Rnd fi gs k s g z j)(hs:s<8):fndE (fP k) (1,(s:Int),g)=0:=by
 obtain⟨rfl,rfl,rfl,rfl,rfl,rfl,rfl,rfl,rfl,rfl,rfl⟩:=H
 exact rd_f hG h hs
theorem rf_n(H:RtF N gs fi fA fS fP fC fQ fW fY fE fO fD fB)(hG:Gn fi gs)(h:Rnd fi gs k s g z j)(hs:s<8):(fndX (fP k) (1,(s:Int),g)).num=z:=by
 obtain⟨rfl,rfl,rfl,rfl,rfl,rfl,rfl,rfl,rfl,rfl,rfl⟩:=H
 exact rd_n hG h hs
theorem rf_l(H:RtF N gs fi fA fS fP fC fQ fW fY fE fO fD fB)(hG:Gn fi gs)(h:Rnd fi gs k s g z j)(hs:s<8):clsL (fP k) (1,(s:Int),g)=true:=by
 obtain⟨rfl,rfl,rfl,rfl,rfl,rfl,rfl,rfl,rfl,rfl,rfl⟩:=H
 exact rd_l hG h hs
theorem rf_c(H:RtF N gs fi fA fS fP fC fQ fW fY fE fO fD fB)(hG:Gn fi gs)(h:Rnd fi gs k s g z j)(hs:s<8):clsS (fP k) (1,(s:Int),g)=fC k:=by
 obtain⟨rfl,rfl,rfl,rfl,rfl,rfl,rfl,rfl,rfl,rfl,rfl⟩:=H
 exact rd_c hG h hs
theorem rf_g(H:RtF N gs fi fA fS fP fC fQ fW fY fE fO fD fB)(h:Rnd fi gs k s g z j):getR (fC k) z=⟨(1,(s:Int),g),1,0,0,0,[120]⟩:=by
 obtain⟨rfl,rfl,rfl,rfl,rfl,rfl,rfl,rfl,rfl,rfl,rfl⟩:=H
 exact rd_g h
theorem rf_e(H:RtF N gs fi fA fS fP fC fQ fW fY fE fO fD fB)(h:Rnd fi gs k s g z j):nE (fC k) z=0:=by
 obtain⟨rfl,rfl,rfl,rfl,rfl,rfl,rfl,rfl,rfl,rfl,rfl⟩:=H
 exact rd_e h
theorem rf_x(H:RtF N gs fi fA fS fP fC fQ fW fY fE fO fD fB)(hG:Gn fi gs)(h:Rnd fi gs k s g z j)(hs:s<8):setE (fC k) z ⟨(1,(s:Int),g),2,1,0,0,[120]⟩=0:=by
 obtain⟨rfl,rfl,rfl,rfl,rfl,rfl,rfl,rfl,rfl,rfl,rfl⟩:=H
 exact rd_x hG h hs
theorem rf_y(H:RtF N gs fi fA fS fP fC fQ fW fY fE fO fD fB)(hG:Gn fi gs)(h:Rnd fi gs k s g z j)(hs:s<8):setS (fC k) z ⟨(1,(s:Int),g),2,1,0,0,[120]⟩=fQ k:=by
 obtain⟨rfl,rfl,rfl,rfl,rfl,rfl,rfl,rfl,rfl,rfl,rfl⟩:=H
 exact rd_y hG h hs
theorem rf_now(H:RtF N gs fi fA fS fP fC fQ fW fY fE fO fD fB):(fY k).now=0:=by
 obtain⟨rfl,rfl,rfl,rfl,rfl,rfl,rfl,rfl,rfl,rfl,rfl⟩:=H
 exact rd_now
theorem rf_due(H:RtF N gs fi fA fS fP fC fQ fW fY fE fO fD fB)(h:Rnd fi gs k s g z j){bt:Int}(hb:1≤bt):dueB (fQ k) (fY k).now bt= [z]:=by
 obtain⟨rfl,rfl,rfl,rfl,rfl,rfl,rfl,rfl,rfl,rfl,rfl⟩:=H
 exact rd_due h hb
theorem rf_rok(H:RtF N gs fi fA fS fP fC fQ fW fY fE fO fD fB)(c:Cf)(hG:Gn fi gs)(h:Rnd fi gs k s g z j)(hs:s<8)(hk:k<2000):RunOk c (fY k).now (fQ k,fY k) [z]:=by
 obtain⟨rfl,rfl,rfl,rfl,rfl,rfl,rfl,rfl,rfl,rfl,rfl⟩:=H
 exact rd_rok c hG h hs hk
theorem rf_run(H:RtF N gs fi fA fS fP fC fQ fW fY fE fO fD fB)(c:Cf)(hG:Gn fi gs)(h:Rnd fi gs k s g z j)(hs:s<8)(hk:k<2000):runB c (fY k).now (fQ k,fY k) [z]=(fS j,fW j):=by
 obtain⟨rfl,rfl,rfl,rfl,rfl,rfl,rfl,rfl,rfl,rfl,rfl⟩:=H
 exact rd_run c hG h hs hk
theorem rf_ats(H:RtF N gs fi fA fS fP fC fQ fW fY fE fO fD fB)(c:Cf)(hG:Gn fi gs)(h:Rnd fi gs k s g z j)(hs:s<8)(hk:k<2000):atsB c (fY k).now (fQ k,fY k) [z]= [(⟨0,(1,(s:Int),g),1,1⟩:At)]:=by
 obtain⟨rfl,rfl,rfl,rfl,rfl,rfl,rfl,rfl,rfl,rfl,rfl⟩:=H
 exact rd_ats c hG h hs hk
theorem rf_stale(H:RtF N gs fi fA fS fP fC fQ fW fY fE fO fD fB)(hG:Gn fi gs)(h:Rnd fi gs k s g z j)(hs:s<8){m:Nat}:fndE (fS m) (1,(s:Int),g)=7:=by
 obtain⟨rfl,rfl,rfl,rfl,rfl,rfl,rfl,rfl,rfl,rfl,rfl⟩:=H
 exact rd_stale hG h hs
theorem rf_T(H:RtF N gs fi fA fS fP fC fQ fW fY fE fO fD fB)(h:Rnd fi gs k s g z j){m:Nat}(hm:k<m):(fW m).T[k]? =some (⟨0,(1,(s:Int),g),1,1⟩:At):=by
 obtain⟨rfl,rfl,rfl,rfl,rfl,rfl,rfl,rfl,rfl,rfl,rfl⟩:=H
 exact rd_T h hm
theorem rf_sk_len(H:RtF N gs fi fA fS fP fC fQ fW fY fE fO fD fB)(k:Nat):(fS k).R.length=k:=by
 obtain⟨rfl,rfl,rfl,rfl,rfl,rfl,rfl,rfl,rfl,rfl,rfl⟩:=H
 exact sk_len fi gs k
theorem rf_wk_tlen(H:RtF N gs fi fA fS fP fC fQ fW fY fE fO fD fB)(k:Nat):(fW k).T.length=k:=by
 obtain⟨rfl,rfl,rfl,rfl,rfl,rfl,rfl,rfl,rfl,rfl,rfl⟩:=H
 exact wk_tlen fi gs k
theorem rf_dk_len(H:RtF N gs fi fA fS fP fC fQ fW fY fE fO fD fB)(k:Nat):(fD k).length=k:=by
 obtain⟨rfl,rfl,rfl,rfl,rfl,rfl,rfl,rfl,rfl,rfl,rfl⟩:=H
 exact dk_len
theorem rf_ek_len(H:RtF N gs fi fA fS fP fC fQ fW fY fE fO fD fB)(k:Nat):(fE k).length=k:=by
 obtain⟨rfl,rfl,rfl,rfl,rfl,rfl,rfl,rfl,rfl,rfl,rfl⟩:=H
 exact ek_len
theorem rf_sk_nums3(H:RtF N gs fi fA fS fP fC fQ fW fY fE fO fD fB)(k:Nat):(nums (fS k).R 3).length=k:=by
 obtain⟨rfl,rfl,rfl,rfl,rfl,rfl,rfl,rfl,rfl,rfl,rfl⟩:=H
 exact sk_nums3
theorem rf_sk_room(H:RtF N gs fi fA fS fP fC fQ fW fY fE fO fD fB)(hs:k/gs<8):1≤(inS 0 (fS k).A 0).length:=by
 obtain⟨rfl,rfl,rfl,rfl,rfl,rfl,rfl,rfl,rfl,rfl,rfl⟩:=H
 exact sk_room hs
theorem rf_b0(H:RtF N gs fi fA fS fP fC fQ fW fY fE fO fD fB):fB 0= []:=by
 obtain⟨rfl,rfl,rfl,rfl,rfl,rfl,rfl,rfl,rfl,rfl,rfl⟩:=H
 rfl
theorem tg_ge:0≤tagE [120]:=Int.le_of_eq tag_x.symm
theorem tg_le:0≤ -(tagE [120]):=by rw[tag_x];decide
end
end
theorem t27e34_neq_t{n:Nat}{l:Fr}{o:Oper}{x y:Operand}(a0 a1 c0 c1:Int)(ho:o.op= .binOp .neq 34 x y 34)(hx:fe n l x= .agg #[iV a0,iV a1])(hy:fe n l y= .agg #[iV c0,iV c1])(h:a0=c0∧a1=c1)(w:World):(execOp (fe n l) o).run prog w= .ok (.value (.bool false)) w:=by
 obtain⟨rfl,rfl⟩:=h
 simp[execOp,ho,hx,hy,go_sem]
theorem mcnewF(n m:Nat)(zz yy:Int)(q:Nat)(mq bt ba cp fi:Int)(gs:Nat)(fA:Nat→List Sl2)(fS fP fC fQ:Nat→Ts)(fW fY:Nat→Wst)(fE fO:Nat→KlT)(fD:Nat→List Ky)(fB:Nat→List (Ky×Bool))(H:RtF n gs fi fA fS fP fC fQ fW fY fE fO fD fB)(hG:Gn fi gs)(hf0:0≤(n:Int)-1)(hf1:0≤ -(n:Int)+256)(hf2:0≤(m:Int)-1)(hf3:0≤ -(m:Int)+4)(hf4:0≤zz-1)(hf5:0≤ -zz+64)(hf6:0≤yy-1)(hf7:0≤ -yy+64)(hf8:0≤(q:Int)-1)(hf9:0≤ -(q:Int)+64)(hf10:0≤mq-1)(hf11:0≤ -mq+256)(hf12:0≤bt-1)(hf13:0≤ -bt+64)(hf14:0≤ba-1)(hf15:0≤cp-ba)(hf16:0≤ -cp+1048576)(hf17:0≤fi-1)(hf18:0≤ -fi+4294967295):HT prog 6 [Value.agg #[iV n,iV m,iV zz,iV yy,iV q,iV mq,iV bt,iV ba,iV cp,uV fi]] [] (fun v K=> ∃mb:Nat,∃rg:Nat,∃ar:Nat,∃yc:Nat,∃rq:Nat,∃tb:Nat,∃wd:Nat,∃qo:Nat,∃lk:Nat,v=Value.tuple #[pV mb,iV 0]∧K= [Mch mb rg m (fD 0) 0,Cl rg [pV ar,pV yc,pV rq,iV n,iV m,iV zz,iV yy,iV q,iV mq,iV bt,iV ba,iV cp,uV fi,pV tb,pV wd,pV qo,pV lk] 84,Ar0 ar n m (fA 0),Cy yc n m 0 0 0 0 (n:Int) 0,Rq0 rq q 0,TW tb 256 (fS 0),Wd wd (fW 0),Cl qo [iV mq,Value.pointer none] 191,Rpo lk 0 (fE 0)]):=by
 obtain⟨rfl,rfl,rfl,rfl,rfl,rfl,rfl,rfl,rfl,rfl,rfl⟩:=H
 exact mcnewR n m zz yy q mq bt ba cp fi gs hG om om om om om om om om om om om om om om om om om om om
theorem rt_open{fA:Nat→List Sl2}{fS fP fC fQ:Nat→Ts}{fW fY:Nat→Wst}{fE fO:Nat→KlT}{fD:Nat→List Ky}{fB:Nat→List (Ky×Bool)}{gs:Nat}{k:Nat}{sl:Nat}{k1:Nat}{gn:Int}{nz:Int}(mb rg ar yc rq n m:Nat)(zz yy:Int)(q:Nat)(mq bt ba cp fi:Int)(tb wd qo lk nr:Nat)(at_ nx:Int)(H:RtF n gs fi fA fS fP fC fQ fW fY fE fO fD fB)(hGn:Gn fi gs)(hRd:Rnd fi gs k sl gn nz k1)(hf0:0≤ -(nr:Int)+99999)(hf1:0≤(m:Int)-1)(hf2:0≤mq-1)(hf3:0≤ -(n:Int)+256)(hf4:0≤(n:Int)-(sl:Int)-1)(hf5:0≤ -(sl:Int)+7)(hf6:0≤ -(k:Int)+1000):HQ 7 [pV mb,Value.agg #[iV 8,iV 0,iV 1,iV k,iV 0,Value.string (St [120])]] [Mch mb rg m (fD k) nr,Cl rg [pV ar,pV yc,pV rq,iV n,iV m,iV zz,iV yy,iV q,iV mq,iV bt,iV ba,iV cp,uV fi,pV tb,pV wd,pV qo,pV lk] 84,Ar0 ar n m (fA k),Cy yc n m 0 (k:Int) 0 at_ nx (k:Int),Rq0 rq q 0,TW tb 256 (fS k),Wd wd (fW k),Cl qo [iV mq,Value.pointer none] 191,Rpo lk (k:Int) (fE k)] (Value.agg #[iV 0,iV k]) [Mch mb rg m (fD k1) (nr+1),Cl rg [pV ar,pV yc,pV rq,iV n,iV m,iV zz,iV yy,iV q,iV mq,iV bt,iV ba,iV cp,uV fi,pV tb,pV wd,pV qo,pV lk] 84,Ar2 ar n m (takeA (fA k)) sl gn,Cy yc n m 0 (k:Int) 0 at_ nx (k:Int),Rq1 rq q sl sl gn,TW tb 256 (fP k),Wd wd (fY k),Cl qo [iV mq,Value.pointer none] 191,Rpo lk (k:Int) (fO k)]:=by
 obtain⟨hga_,hgb_,hgc_⟩:=rd_gen hGn hRd
 have hro_:=rf_room H hRd om
 have a:1≤(inS 0 (fS k).A 0).length:=rf_sk_room H (by rw[hRd.es];omega)
 have h:=mdo_open mb rg ar yc rq n m zz yy q mq bt ba cp fi tb wd qo lk (fD k) nr (k:Int) [120] (fA k) sl gn (k:Int) at_ nx (fS k) (fW k) (fY k) (sl:Int) gn sl gn (fP k) (k:Int) (fE k) (fO k) (rf_A H hRd om) (rf_wE H hRd om om) (rf_wO H hRd om om) (rf_wS H hRd om om) (rf_oE H hGn hRd om om) (rf_oD H hGn hRd om om) (rf_oS H hGn hRd om om) (rf_eN H hGn hRd) (rf_eO H hGn hRd) om om om om tg_ge tg_le (by simp only[rf_dk_len H,rf_sk_len H,rf_sk_nums3 H,rf_ek_len H,rf_wk_tlen H];omega) (by simp only[rf_dk_len H,rf_sk_len H,rf_sk_nums3 H,rf_ek_len H,rf_wk_tlen H];omega) (by simp only[rf_dk_len H,rf_sk_len H,rf_sk_nums3 H,rf_ek_len H,rf_wk_tlen H];omega) om om om om (by simp only[rf_dk_len H,rf_sk_len H,rf_sk_nums3 H,rf_ek_len H,rf_wk_tlen H];omega) om om om om om om om om om om om (by simp only[rf_dk_len H,rf_sk_len H,rf_sk_nums3 H,rf_ek_len H,rf_wk_tlen H];omega)
 rw[rf_D H hRd,rf_dk_len H] at h
 exact h
theorem rt_full{fA:Nat→List Sl2}{fS fP fC fQ:Nat→Ts}{fW fY:Nat→Wst}{fE fO:Nat→KlT}{fD:Nat→List Ky}{fB:Nat→List (Ky×Bool)}{gs:Nat}{k:Nat}{sl:Nat}{k1:Nat}{gn:Int}{nz:Int}(mb rg ar yc rq n m:Nat)(zz yy:Int)(q:Nat)(mq bt ba cp fi:Int)(tb wd qo lk nr:Nat)(at_ nx:Int)(H:RtF n gs fi fA fS fP fC fQ fW fY fE fO fD fB)(hRd:Rnd fi gs k sl gn nz k1)(hf0:0≤ -(nr:Int)+99999)(hf1:0≤(m:Int)-1)(hf2:0≤mq-1)(hf3:0≤(sl:Int)-(n:Int))(hf4:0≤ -(k:Int)+1000):HQ 7 [pV mb,Value.agg #[iV 8,iV 0,iV 1,iV k,iV 0,Value.string (St [120])]] [Mch mb rg m (fD k) nr,Cl rg [pV ar,pV yc,pV rq,iV n,iV m,iV zz,iV yy,iV q,iV mq,iV bt,iV ba,iV cp,uV fi,pV tb,pV wd,pV qo,pV lk] 84,Ar0 ar n m (fA k),Cy yc n m 0 (k:Int) 0 at_ nx (k:Int),TW tb 256 (fS k),Wd wd (fW k),Cl qo [iV mq,Value.pointer none] 191] (Value.agg #[iV 4,iV 0]) [Mch mb rg m (fD k) (nr+1),Cl rg [pV ar,pV yc,pV rq,iV n,iV m,iV zz,iV yy,iV q,iV mq,iV bt,iV ba,iV cp,uV fi,pV tb,pV wd,pV qo,pV lk] 84,Ar0 ar n m (fA k),Cy yc n m 0 (k:Int) 0 at_ nx (k:Int),TW tb 256 (fS k),Wd wd (fW k),Cl qo [iV mq,Value.pointer none] 191]:=by
 have hfu_:=rf_full H hRd om
 have h:=mdo_full mb rg ar yc rq n m zz yy q mq bt ba cp fi tb wd qo lk (fD k) nr (k:Int) [120] (fA k) (k:Int) at_ nx (fS k) (fW k) om om om om tg_ge tg_le (by simp only[rf_dk_len H,rf_sk_len H,rf_sk_nums3 H,rf_ek_len H,rf_wk_tlen H];omega) (by simp only[rf_dk_len H,rf_sk_len H,rf_sk_nums3 H,rf_ek_len H,rf_wk_tlen H];omega) om om om
 exact h
theorem rt_desc{fA:Nat→List Sl2}{fS fP fC fQ:Nat→Ts}{fW fY:Nat→Wst}{fE fO:Nat→KlT}{fD:Nat→List Ky}{fB:Nat→List (Ky×Bool)}{gs:Nat}{k:Nat}{sl:Nat}{k1:Nat}{gn:Int}{nz:Int}(mb rg n m:Nat)(fi:Int)(nr:Nat)(H:RtF n gs fi fA fS fP fC fQ fW fY fE fO fD fB)(hRd:Rnd fi gs k sl gn nz k1):HQ 8 [pV mb,iV k] [Mch mb rg m (fD k1) nr] (Value.tuple #[Value.agg #[iV 1,iV sl,uV gn],iV 0]) [Mch mb rg m (fD k1) nr]:=by
 have hej_:=hRd.ej
 have h:=mdesc mb rg 0 0 0 n m 0 0 0 0 0 0 0 fi 0 0 0 0 (fD k1) nr sl gn k (rf_Di H hRd (by have:=hRd.ej;omega)) (by simp only[rf_dk_len H,rf_sk_len H,rf_sk_nums3 H,rf_ek_len H,rf_wk_tlen H];omega)
 exact h
theorem rt_cls{fA:Nat→List Sl2}{fS fP fC fQ:Nat→Ts}{fW fY:Nat→Wst}{fE fO:Nat→KlT}{fD:Nat→List Ky}{fB:Nat→List (Ky×Bool)}{gs:Nat}{k:Nat}{sl:Nat}{k1:Nat}{gn:Int}{nz:Int}(mb rg ar yc rq n m:Nat)(zz yy:Int)(q:Nat)(mq bt ba cp fi:Int)(tb wd qo lk nr:Nat)(H:RtF n gs fi fA fS fP fC fQ fW fY fE fO fD fB)(hGn:Gn fi gs)(hRd:Rnd fi gs k sl gn nz k1)(hf0:0≤ -(nr:Int)+99999)(hf1:0≤(m:Int)-1)(hf2:0≤ -(sl:Int)+7):HQ 7 [pV mb,Value.agg #[iV 12,iV 0,iV k,iV 0,iV 0,Value.string (St [])]] [Mch mb rg m (fD k1) nr,Cl rg [pV ar,pV yc,pV rq,iV n,iV m,iV zz,iV yy,iV q,iV mq,iV bt,iV ba,iV cp,uV fi,pV tb,pV wd,pV qo,pV lk] 84,Rq1 rq q sl sl gn,TW tb 256 (fP k),Wd wd (fY k)] (Value.agg #[iV 0,iV 0]) [Mch mb rg m (fD k1) (nr+1),Cl rg [pV ar,pV yc,pV rq,iV n,iV m,iV zz,iV yy,iV q,iV mq,iV bt,iV ba,iV cp,uV fi,pV tb,pV wd,pV qo,pV lk] 84,Rq0 rq q 0,TW tb 256 (fQ k),Wd wd (fY k)]:=by
 obtain⟨hga_,hgb_,hgc_⟩:=rd_gen hGn hRd
 have hej_:=hRd.ej
 have h:=mdo_cls1 mb rg ar yc rq n m zz yy q mq bt ba cp fi tb wd qo lk (fD k1) nr [120] (fP k) (fC k) (fQ k) (fY k) (sl:Int) gn nz sl gn sl gn k (rf_f H hGn hRd om) (rf_n H hGn hRd om) (rf_l H hGn hRd om) (rf_c H hGn hRd om) (rf_g H hRd) (rf_e H hRd) (rf_x H hGn hRd om) (rf_y H hGn hRd om) (rf_now H) (rf_Di H hRd (by have:=hRd.ej;omega)) om om om om om om om om tg_ge tg_le (by simp only[rf_dk_len H,rf_sk_len H,rf_sk_nums3 H,rf_ek_len H,rf_wk_tlen H];omega) om
 exact h
theorem rt_bat{fA:Nat→List Sl2}{fS fP fC fQ:Nat→Ts}{fW fY:Nat→Wst}{fE fO:Nat→KlT}{fD:Nat→List Ky}{fB:Nat→List (Ky×Bool)}{gs:Nat}{k:Nat}{sl:Nat}{k1:Nat}{gn:Int}{nz:Int}(mb rg ar yc rq n m:Nat)(zz yy:Int)(q:Nat)(mq bt ba cp fi:Int)(tb wd qo lk nr:Nat)(H:RtF n gs fi fA fS fP fC fQ fW fY fE fO fD fB)(hGn:Gn fi gs)(hRd:Rnd fi gs k sl gn nz k1)(hf0:0≤ -(nr:Int)+99999)(hf1:0≤(m:Int)-1)(hf2:0≤bt-1)(hf3:0≤ -bt+64)(hf4:0≤ba-1)(hf5:0≤cp-ba)(hf6:0≤ -cp+1048576)(hf7:0≤mq-1)(hf8:0≤ -(sl:Int)+7)(hf9:0≤ -(k:Int)+1000):HQ 7 [pV mb,Value.agg #[iV 14,iV 0,iV 0,iV 0,iV 0,Value.string (St [])]] [Mch mb rg m (fD k1) nr,Cl rg [pV ar,pV yc,pV rq,iV n,iV m,iV zz,iV yy,iV q,iV mq,iV bt,iV ba,iV cp,uV fi,pV tb,pV wd,pV qo,pV lk] 84,Rq0 rq q 0,TW tb 256 (fQ k),Wd wd (fY k),Cl qo [iV mq,Value.pointer none] 191,Rpo lk (k:Int) (fO k)] (Value.agg #[iV 0,iV 0]) [Mch mb rg m (fD k1) (nr+1),Cl rg [pV ar,pV yc,pV rq,iV n,iV m,iV zz,iV yy,iV q,iV mq,iV bt,iV ba,iV cp,uV fi,pV tb,pV wd,pV qo,pV lk] 84,Rq0 rq q 0,TW tb 256 (fS k1),Wd wd (fW k1),Cl qo [iV mq,Value.pointer none] 191,Rpo lk (k1:Int) (fE k1)]:=by
 obtain⟨hga_,hgb_,hgc_⟩:=rd_gen hGn hRd
 have hej_:=hRd.ej
 have h:=mdo_bat10 mb rg ar yc rq n m zz yy q mq bt ba cp fi tb wd qo lk (fD k1) nr 0 (fQ k) (fY k) (k:Int) (fO k) (fS k1) (fW k1) (fE k1) nz (sl:Int) gn 1 [120] (rf_due H hRd om) (rf_rok H _ hGn hRd om om) (rf_run H _ hGn hRd om om) (rf_ats H _ hGn hRd om om) (rf_eG H hGn hRd) (rf_eT H hGn hRd) om om om om om om om om om om om om om om om (by simp only[rf_dk_len H,rf_sk_len H,rf_sk_nums3 H,rf_ek_len H,rf_wk_tlen H];omega)
 rw[show (k:Int)+1=(k1:Int) from by omega] at h
 exact h
theorem rt_led{fA:Nat→List Sl2}{fS fP fC fQ:Nat→Ts}{fW fY:Nat→Wst}{fE fO:Nat→KlT}{fD:Nat→List Ky}{fB:Nat→List (Ky×Bool)}{gs:Nat}{k:Nat}(mb rg ar yc rq n m:Nat)(zz yy:Int)(q:Nat)(mq bt ba cp fi:Int)(tb wd qo lk nr:Nat)(H:RtF n gs fi fA fS fP fC fQ fW fY fE fO fD fB):HT prog 11 [pV mb] [Mch mb rg m (fD k) nr,Cl rg [pV ar,pV yc,pV rq,iV n,iV m,iV zz,iV yy,iV q,iV mq,iV bt,iV ba,iV cp,uV fi,pV tb,pV wd,pV qo,pV lk] 84,Wd wd (fW k)] (fun v K=> ∃p:Option Addr,∃c:Nat,v=Value.slice p k c∧K= [Mch mb rg m (fD k) nr,Cl rg [pV ar,pV yc,pV rq,iV n,iV m,iV zz,iV yy,iV q,iV mq,iV bt,iV ba,iV cp,uV fi,pV tb,pV wd,pV qo,pV lk] 84,Wd wd (fW k),Sl 50 6 p k c (fl eAt ((fW k).T))]):=by
 have h:=mledg mb rg ar yc rq n m zz yy q mq bt ba cp fi tb wd qo lk (fD k) nr (fW k)
 rw[rf_wk_tlen H] at h
 exact h
theorem rt_use{fA:Nat→List Sl2}{fS fP fC fQ:Nat→Ts}{fW fY:Nat→Wst}{fE fO:Nat→KlT}{fD:Nat→List Ky}{fB:Nat→List (Ky×Bool)}{gs:Nat}{k:Nat}{i:Nat}{si:Nat}{gi:Int}(mb rg ar yc rq n m:Nat)(zz yy:Int)(q:Nat)(mq bt ba cp fi:Int)(tb wd qo lk nr:Nat)(H:RtF n gs fi fA fS fP fC fQ fW fY fE fO fD fB)(hGn:Gn fi gs)(hRi:Rnd fi gs i si gi ((i:Int)+1) (i+1))(hf0:0≤ -(nr:Int)+99999)(hf1:0≤(m:Int)-1)(hf2:0≤ -(si:Int)+7)(hf3:0≤(k:Int)-(i:Int)-1):HQ 7 [pV mb,Value.agg #[iV 10,iV 0,iV i,iV 0,iV 0,Value.string (St [])]] [Mch mb rg m (fD k) nr,Cl rg [pV ar,pV yc,pV rq,iV n,iV m,iV zz,iV yy,iV q,iV mq,iV bt,iV ba,iV cp,uV fi,pV tb,pV wd,pV qo,pV lk] 84,TW tb 256 (fS k)] (Value.agg #[iV 7,iV 0]) [Mch mb rg m (fD k) (nr+1),Cl rg [pV ar,pV yc,pV rq,iV n,iV m,iV zz,iV yy,iV q,iV mq,iV bt,iV ba,iV cp,uV fi,pV tb,pV wd,pV qo,pV lk] 84,TW tb 256 (fS k)]:=by
 obtain⟨hga_,hgb_,hgc_⟩:=rd_gen hGn hRi
 have h:=mdo_use7 mb rg ar yc rq n m zz yy q mq bt ba cp fi tb wd qo lk (fD k) nr (fS k) si gi i (rf_stale H hGn hRi om) (rf_Di H hRi om) om om om om (by simp only[rf_dk_len H,rf_sk_len H,rf_sk_nums3 H,rf_ek_len H,rf_wk_tlen H];omega) om
 exact h
theorem ut27_1_Op:HQ 9 [iV 4,iV 0,iV 0,iV 0] [] (.agg #[iV 4,iV 0,iV 0,iV 0,iV 0,.string (St [])]) []:=by
 refine hiS func9 ntmps9 fun g w0 R h0=>g0<|nP 37 [iV 0,iV 0,iV 0,iV 0,iV 0,.string (St [])] h0 (fun _ _ h12=> ?_)
 refine g0<|sA [iV 4,iV 0,iV 0,iV 0,iV 0,.string (St [])] h12 fun _ h14=>g0 ?_
 exact enR _ [rd 0 0 0 0 6 h14] h14.a.t1
theorem ut27_2_Op(b:Nat):HQ 9 [iV 12,iV 0,iV b,iV 0] [] (.agg #[iV 12,iV 0,iV b,iV 0,iV 0,.string (St [])]) []:=by
 refine hiS func9 ntmps9 fun g w0 R h0=>g0<|nP 37 [iV 0,iV 0,iV 0,iV 0,iV 0,.string (St [])] h0 (fun _ _ h12=> ?_)
 refine g0<|sA [iV 12,iV 0,iV b,iV 0,iV 0,.string (St [])] h12 fun _ h14=>g0 ?_
 exact enR (.agg #[iV 12,iV 0,iV b,iV 0,iV 0,.string (St [])]) [rd 0 0 0 0 6 h14] h14.a.t1
theorem ut27_3_Op:HQ 9 [iV 13,iV 0,iV 40,iV 0] [] (.agg #[iV 13,iV 0,iV 40,iV 0,iV 0,.string (St [])]) []:=by
 refine hiS func9 ntmps9 fun g w0 R h0=>g0<|nP 37 [iV 0,iV 0,iV 0,iV 0,iV 0,.string (St [])] h0 (fun _ _ h12=> ?_)
 refine g0<|sA [iV 13,iV 0,iV 40,iV 0,iV 0,.string (St [])] h12 fun _ h14=>g0 ?_
 exact enR _ [rd 0 0 0 0 6 h14] h14.a.t1
theorem ut27_4_Op(b:Nat):HQ 9 [iV 10,iV 0,iV b,iV 0] [] (.agg #[iV 10,iV 0,iV b,iV 0,iV 0,.string (St [])]) []:=by
 refine hiS func9 ntmps9 fun g w0 R h0=>g0<|nP 37 [iV 0,iV 0,iV 0,iV 0,iV 0,.string (St [])] h0 (fun _ _ h12=> ?_)
 refine g0<|sA [iV 10,iV 0,iV b,iV 0,iV 0,.string (St [])] h12 fun _ h14=>g0 ?_
 exact enR (.agg #[iV 10,iV 0,iV b,iV 0,iV 0,.string (St [])]) [rd 0 0 0 0 6 h14] h14.a.t1
theorem retired_ht(zo zm zt zq zu zb zw zl zv:Int)(hf0:0≤zo)(hf1:0≤zm)(hf2:0≤zt)(hf3:0≤zq)(hf4:0≤zu)(hf5:0≤zb)(hf6:0≤zw)(hf7:0≤zl)(hf8:0≤zv)(hf9:0≤ -zo+255)(hf10:0≤ -zm+255)(hf11:0≤ -zt+255)(hf12:0≤ -zq+255)(hf13:0≤ -zu+255)(hf14:0≤ -zb+255)(hf15:0≤ -zw+255)(hf16:0≤ -zl+255)(hf17:0≤ -zv+255):HQ 3 [.agg #[yV zo,yV zm,yV zt,yV zq,yV zu,yV zb,yV zw,yV zl],yV zv] [] (.bool true) []:=by
 refine hiS func3 ntmps3 fun g w0 R h0=> ?_
 obtain⟨gs,hgs_⟩: ∃gs:Nat,zv%3+1=(gs:Int):=⟨(zv%3).toNat+1,by omega⟩;have C:1≤gs∧gs≤3:=(by omega);obtain⟨fi,hfi_⟩: ∃fi:Int,fi=4294967296-(gs:Int):=⟨_,rfl⟩;have hGn:Gn fi gs:=⟨by omega,by omega,by omega⟩
 refine g0<|nP 23 [yV zo,yV zm,yV zt,yV zq,yV zu,yV zb,yV zw,yV zl] h0 (fun r10 _ h12=> ?_)
 have hb13:=rem_bd (a:=zo) (b:=8) om om
 refine go [rd 1 1 0 0 1 h12,.s 1 2]<|lwP (yV (zo%8)) (law_rem (t:=5) (x:=Ot 20) (y:=(Operand.const (yV 8))) kr zo 8 kr kr om (zo%8) (rem_ex om) _)<|g0<|sP [(0,yV (zo%8))] [yV (zo%8),yV zm,yV zt,yV zq,yV zu,yV zb,yV zw,yV zl] h12 fun _ h15=>go [rd 2 0 0 0 8 h15]<|cP call5 (szcfgR (zo%8) zm zt zq zu zb zw zl om om om om om om om om om om om om om om om om) h15 ?_
 rintro v K _ (⟨n,m,q,zz,yy,mq,bt,ba,cp,u,hcb_,rfl,rfl⟩) h17
 have h18:=ap0 h17
 have D:1≤n∧n≤8:=by omega
 obtain⟨ng,hng⟩: ∃ng:Nat,(n:Int)*(gs:Int)=(ng:Int):=⟨n*gs,by simp⟩;have E:=ng_max hng om om
 obtain⟨fA,fS,fP,fC,fQ,fW,fY,fE,fO,fD,fB,H⟩: ∃(fA:Nat→List Sl2) (fS fP fC fQ:Nat→Ts) (fW fY:Nat→Wst) (fE fO:Nat→KlT) (fD:Nat→List Ky) (fB:Nat→List (Ky×Bool)),RtF n gs fi fA fS fP fC fQ fW fY fE fO fD fB:=⟨_,_,_,_,_,_,_,_,_,_,_,⟨rfl,rfl,rfl,rfl,rfl,rfl,rfl,rfl,rfl,rfl,rfl⟩⟩
 refine nP 26 [iV 0,iV 0,iV 0,iV 0,iV 0,iV 0,iV 0,iV 0,iV 0,uV 0] h18 (fun r19 _ h21=> ?_)
 refine sA [iV n,iV m,iV zz,iV yy,iV q,iV mq,iV bt,iV ba,iV cp,uV u] h21 fun _ h23=>go [.s 3 1]<|lwP (yV ((gs:Int)-1)) (law_rem (t:=5) (x:=Ot 25) (y:=(Operand.const (yV 3))) kr zv 3 kr kr om ((gs:Int)-1) ((rem_ex om).trans om) _)<|go [.v 3 2 (oIr ((gs:Int)-1)),.v 3 3 (oI (1+((gs:Int)-1)) (gs:Int)),.v 4 1 (oUr (gs:Int)),.v 4 2 (oU (4294967295-(gs:Int)) (-(gs:Int)+4294967295)),.v 4 3 (oU ((-(gs:Int)+4294967295)+1) fi)]<|sP [(9,uV fi)] [iV n,iV m,iV zz,iV yy,iV q,iV mq,iV bt,iV ba,iV cp,uV fi] h23 fun _ h25=>go [rd 5 0 0 0 10 h25]<|cP call6 (mcnewF n m zz yy q mq bt ba cp fi gs fA fS fP fC fQ fW fY fE fO fD fB H hGn om om om om om om om om om om om om om om om om om om om) h25 ?_
 rintro v K w26 (⟨mb,rg,ar,yc,rq,tb,wd,qo,lk,rfl,rfl⟩) h27
 have h28:sat g _ (Mch mb rg m (fD 0) 0::_):=h27
 have F:=hcb_.2
 refine g0 ?_
 refine actG ?_
 refine ag_makeMap (t:=32) (d:=41) kv vBl kr kr rfl h28 ?_
 intro r29 w30 h31
 refine nxA<|g0 ?_
 have h32:sat g _ (Gp kv vBl r29 (fB 0)::_):=sat_imp h31 (fun _ q_=>by rw[rf_b0 H];exact q_)
 refine lpS (fun mz_ a w=> ∃k:Nat,∃nr:Nat,∃at_:Int,∃nx:Int,∃lr:Fr,mz_=26-k∧(k≤ng)∧(nr≤k*20)∧a=mk 173 (([(5,pV r19),(6,iV gs),(7,pV mb),(9,.map (some r29)),(10,iV k),(11,iV k)]:Fr)++lr)∧sat g w [Gp kv vBl r29 (fB k),Mch mb rg m (fD k) nr,Cl rg [pV ar,pV yc,pV rq,iV n,iV m,iV zz,iV yy,iV q,iV mq,iV bt,iV ba,iV cp,uV fi,pV tb,pV wd,pV qo,pV lk] 84,Ar0 ar n m (fA k),Cy yc n m 0 (k:Int) 0 at_ nx (k:Int),Rq0 rq q 0,TW tb 256 (fS k),Wd wd (fW k),Cl qo [iV mq,.pointer none] 191,Rpo lk (k:Int) (fE k),Cl r19 [iV n,iV m,iV zz,iV yy,iV q,iV mq,iV bt,iV ba,iV cp,uV fi] 26,Cl r10 [yV (zo%8),yV zm,yV zt,yV zq,yV zu,yV zb,yV zw,yV zl] 23,R]) (26-0) ⟨0,0,0,(n:Int),_,rfl,(Nat.zero_le _),(Nat.le_refl _),(lvF [.k 5 (pV r19),.k 6 (iV gs),.k 7 (pV mb),.k 9 (.map (some r29)),.o 10 (oJ .i64 0 (0:Int)),.o 11 (oJ .i64 0 (0:Int))]),h32⟩ ?_
 rintro m34 a35 w36 ⟨k,nr,at_,nx,lr33,rfl,hk_,hnr_,rfl,h37⟩
 refine ga ?_
 obtain⟨sl,es_⟩: ∃s:Nat,k/gs=s:=⟨_,rfl⟩;obtain⟨gn,eg_⟩: ∃g:Int,fi+((k%gs:Nat):Int)=g:=⟨_,rfl⟩;obtain⟨nz,ez_⟩: ∃z:Int,(k:Int)+1=z:=⟨_,rfl⟩;obtain⟨k1,ej_⟩: ∃j:Nat,k+1=j:=⟨_,rfl⟩
 have hRd:Rnd fi gs k sl gn nz k1:=⟨es_,eg_,ez_,ej_⟩;obtain⟨hga_,hgb_,hgc_⟩:=rd_gen hGn hRd
 refine go [.v 11 1 (oT ((k:Int)<26))] ?_
 by_cases c38:sl<n
 ·
  have hmo_:k+1≤ng:=ng_more om hng (by rw[es_];omega)
  refine cP call7 (rt_open mb rg ar yc rq n m zz yy q mq bt ba cp fi tb wd qo lk nr at_ nx H hGn hRd om om om om om om om) h37.i.i.i.i.i.i.i.i.i.t13 ?_
  rintro v K w40 (⟨rfl,rfl⟩) h41
  have h42:sat g _ (Mch mb rg m (fD k1) (nr+1)::_):=h41
  refine nP 34 [iV 0,iV 0] h42 (fun r43 _ h45=> ?_)
  refine sA [iV 0,iV k] h45 fun _ h47=> ?_
  have h48:=h47.a.t14
  refine go [rd 14 1 0 0 1 h47,rd 15 2 0 1 1 h47]<|cl1 call8 (rt_desc mb rg n m fi (nr+1) H hRd) h48 fun _ h50=>g0<|nP 39 [iV 0,iV 0,uV 0] h50 (fun r51 _ h53=> ?_)
  refine sA [iV 1,iV sl,uV gn] h53 fun _ h55=>go [rd 16 1 2 0 1 h55,rd 16 9 2 1 1 h55,.v 16 11 (qnF (k:Int) (k:Int)),rd 16 15 0 0 3 h55] ?_
  refine actG ?_
  refine act_law (d:=76) (.bool false) kr rfl (law_lookupG (t:=32) (z:= .bool false) (m:=Ot 74) (x:=Ot 75) (kv:=kv) (ve:=vBl) kr underlying32 kyD kr (1,(sl:Int),gn) kr kr (j:=11) h55 rfl (.bool false) (fun u_ hu_=>by rw[(rf_bN H hGn hRd)] at hu_;cases hu_) (fun _=>rfl)) ?_
  refine nxA ?_
  have h56:=h55.k.t15
  refine go [rd 16 20 0 2 1 h55,rd 16 22 12 9 1 h55,.v 16 23 (oF (gn<fi)),rd 18 1 0 0 3 h55] ?_
  refine actG ?_
  refine ag_mapUpdate (t:=32) (m:=Ot 85) (x:=Ot 86) (y:=(Operand.const (.bool true))) (kv:=kv) (ve:=vBl) kr kr underlying32 kyD (1,(sl:Int),gn) true kr kr kr h56 (gset (fB k) (1,(sl:Int),gn) true) rfl ?_
  intro _ h58
  refine nxB<|go [.v 19 1 (oIr ((k:Int)+1))]<|cl0 call9 ut27_1_Op h58 fun _ h60=>cl3 call7 (mdo_drop mb rg ar yc rq n m zz yy q mq bt ba cp fi tb wd qo lk (fD k1) (nr+1) (takeA (fA k)) sl gn om om) h60.e.e.d.t15 fun _ h63=>go [.s 20 4]<|lwP (.bool false) (t27e34_neq_t (x:=Ot 91) (y:=Ot 92) 0 0 0 0 kr kr kr ⟨rfl,rfl⟩ _)<|go [rd 20 8 5 1 1 h63]<|cl0 call9 (ut27_2_Op k) h63 fun _ h65=>cl5 call7 (rt_cls mb rg ar yc rq n m zz yy q mq bt ba cp fi tb wd qo lk (nr+2) H hGn hRd om om om) h65.i.i.i.d.d.t15 fun _ h68=>go [.s 20 12]<|lwP (.bool false) (t27e34_neq_t (x:=Ot 99) (y:=Ot 100) 0 0 0 0 kr kr kr ⟨rfl,rfl⟩ _) ?_
  have h69:=h68.k.k.f.f.f.f.f.t15
  refine g0<|cP call7 (rt_bat mb rg ar yc rq n m zz yy q mq bt ba cp fi tb wd qo lk (nr+3) H hGn hRd om om om om om om om om om om) h69 ?_
  rintro v K _ (⟨rfl,rfl⟩) h71
  have h72:=ap7 h71
  refine go [.s 20 19]<|lwP (.bool false) (t27e34_neq_t (x:=Ot 106) (y:=Ot 107) 0 0 0 0 kr kr kr ⟨rfl,rfl⟩ _) ?_
  have h73:=h72.k.b.b.t15
  refine g0<|cl3 call7 (mdo_cyc mb rg ar yc rq n m zz yy q mq bt ba cp fi tb wd qo lk (fD k1) (nr+4) (k:Int) 0 at_ nx (k:Int) om om om) h73 fun w74 h75=> ?_
  have h77:sat g w74 [GcC yc n m (k:Int) ((k:Int)+1) 0 0,GcA ar n m (takeA (fA k)) sl gn 0,Mch mb rg m (fD k1) (nr+5),Cl rg [pV ar,pV yc,pV rq,iV n,iV m,iV zz,iV yy,iV q,iV mq,iV bt,iV ba,iV cp,uV fi,pV tb,pV wd,pV qo,pV lk] 84,Rq0 rq q 0,TW tb 256 (fS k1),Wd wd (fW k1),Cl qo [iV mq,.pointer none] 191,Rpo lk (k1:Int) (fE k1),Gp kv vBl r29 (gset (fB k) (1,(sl:Int),gn) true),Cl r51 [iV 1,iV sl,uV gn] 39,Cl r43 [iV 0,iV k] 34,Cl r19 [iV n,iV m,iV zz,iV yy,iV q,iV mq,iV bt,iV ba,iV cp,uV fi] 26,Cl r10 [yV (zo%8),yV zm,yV zt,yV zq,yV zu,yV zb,yV zw,yV zl] 23,R]:=gc_begin om h75.h.c.t15
  refine go [.s 20 26]<|lwP (.bool false) (t27e34_neq_t (x:=Ot 113) (y:=Ot 114) 0 0 0 0 kr kr kr ⟨rfl,rfl⟩ _)<|g0<|unS 39 ?_
  have h78:=h77.c.c.t15
  refine go [rd 25 1 12 0 10 h77]<|cl4 call10 (acks_ht mb rg ar yc rq n m zz yy q mq bt ba cp fi tb wd qo lk (fD k1) (nr+5) (takeA (fA k)) sl gn (k:Int) ((k:Int)+1) 0 om om om om om) h78 fun w79 h80=> ?_
  obtain⟨nr81,en82⟩: ∃x:Nat,nr+5+m=x:=⟨_,rfl⟩
  have h83:sat g _ (Mch mb rg m (fD k1) nr81::_):=sat_imp h80 (fun _ q_=>by rw[en82] at q_;exact q_)
  refine g0<|cl0 call9 ut27_3_Op h83 fun _ h85=>cl5 call7 (mdo_mark0 mb rg ar yc rq n m zz yy q mq bt ba cp fi tb wd qo lk (fD k1) nr81 (takeA (fA k)) sl gn (k:Int) ((k:Int)+1) 0 40 om om om om om om om om om) h85 fun _ h87=>go [.s 26 4]<|lwP (.bool false) (t27e34_neq_t (x:=Ot 126) (y:=Ot 127) 0 0 0 0 kr kr kr ⟨rfl,rfl⟩ _)<|g0<|unN<|go [rd 25 1 12 0 10 h87]<|cl4 call10 (acks_ht mb rg ar yc rq n m zz yy q mq bt ba cp fi tb wd qo lk (fD k1) (nr81+1) (takeA (fA k)) sl gn (k:Int) ((k:Int)+1) 1 om om om om om) h87 fun w88 h89=> ?_
  obtain⟨nr90,en91⟩: ∃x:Nat,nr81+1+m=x:=⟨_,rfl⟩
  have h92:sat g _ (Mch mb rg m (fD k1) nr90::_):=sat_imp h89 (fun _ q_=>by rw[en91] at q_;exact q_)
  refine g0<|cl0 call9 ut27_3_Op h92 fun _ h94=>cl5 call7 (mdo_markE mb rg ar yc rq n m zz yy q mq bt ba cp fi tb wd qo lk (fD k1) nr90 (takeA (fA k)) sl gn (k:Int) ((k:Int)+1) 1 0 40 om om om om om om om om om om om om) h94 fun _ h96=>go [.s 26 4]<|lwP (.bool false) (t27e34_neq_t (x:=Ot 126) (y:=Ot 127) 0 0 0 0 kr kr kr ⟨rfl,rfl⟩ _)<|g0<|unN<|go [rd 25 1 12 0 10 h96]<|cl4 call10 (acks_ht mb rg ar yc rq n m zz yy q mq bt ba cp fi tb wd qo lk (fD k1) (nr90+1) (takeA (fA k)) sl gn (k:Int) ((k:Int)+1) (n*2+3) om om om om om) h96 fun w97 h98=> ?_
  obtain⟨nr99,en100⟩: ∃x:Nat,nr90+1+m=x:=⟨_,rfl⟩
  have h101:sat g _ (Mch mb rg m (fD k1) nr99::_):=sat_imp h98 (fun _ q_=>by rw[en100] at q_;exact q_)
  refine g0<|cl0 call9 ut27_3_Op h101 fun _ h103=>cl5 call7 (mdo_markE mb rg ar yc rq n m zz yy q mq bt ba cp fi tb wd qo lk (fD k1) nr99 (takeA (fA k)) sl gn (k:Int) ((k:Int)+1) (n*2+3) 0 40 om om om om om om om om om om om om) h103 fun w104 h105=>go [.s 26 4]<|lwP (.bool false) (t27e34_neq_t (x:=Ot 126) (y:=Ot 127) 0 0 0 0 kr kr kr ⟨rfl,rfl⟩ _)<|g0<|unN<|g0<|up<|go [.v 12 1 (oIr ((k:Int)+1))] ?_
  refine enL ?_
  obtain⟨at108,nx109,h107⟩:=gc_end om om h105.c.c.t15
  have h110:sat g _ (Cy yc n m 0 ((k:Int)+1) 0 at108 nx109 ((k:Int)+1)::_):=h107
  have ek_:(k:Int)+1=(k1:Int):=by omega
  have h112:sat g _ (Ar0 ar n m (fA k1)::_):=sat_imp h110.a.t15 (fun _ q_=>by rw[rf_give H hGn hRd om] at q_;exact q_)
  have h114:sat g _ (Cy yc n m 0 (k1:Int) 0 at108 nx109 (k1:Int)::_):=sat_imp h112.a.t15 (fun _ q_=>by rw[ek_] at q_;exact q_)
  have h116:sat g _ (Gp kv vBl r29 (fB k1)::_):=sat_imp h114.i.t15 (fun _ q_=>by rw[rf_bS H hGn hRd] at q_;exact q_)
  have h118:=tk13 h116.n.n.n.l.l.l.l.l.i.j.l.l.l.t15
  change ∃n',n'<_∧_
  refine⟨(26-k1),by omega,k1,(nr99+1),at108,nx109,_,rfl,om,om,(lvF [.k 5 (pV r19),.k 6 (iV gs),.k 7 (pV mb),.k 9 (.map (some r29)),.o 10 (oJ .i64 ((k:Int)+1) (k1:Int)),.o 11 (oJ .i64 ((k:Int)+1) (k1:Int))]),h118⟩
 have hen_:=rd_end hRd om hng om
 refine cP call7 (rt_full mb rg ar yc rq n m zz yy q mq bt ba cp fi tb wd qo lk nr at_ nx H hRd om om om om om) h37.h.h.h.x.x.x.x.t13 ?_
 rintro v K _ (⟨rfl,rfl⟩) h121
 refine nP 34 [iV 0,iV 0] (ap7 h121) (fun r123 _ h125=> ?_)
 refine sA [iV 4,iV 0] h125 fun _ h127=>go [rd 14 1 0 0 1 h127]<|up ?_
 have h130:=h127.f.c.c.t14
 refine go [rd 28 2 11 0 1 h127,.v 28 4 (oIr ((n:Int)*(gs:Int))),.v 28 5 (qnF (k:Int) ((n:Int)*(gs:Int)))]<|cP call11 (rt_led mb rg ar yc rq n m zz yy q mq bt ba cp fi tb wd qo lk (nr+1) H) h130 ?_
 rintro v K _ (⟨p128,c129,rfl,rfl⟩) h132
 have h133:=ap4 h132
 refine go [.v 28 11 (qnF (k:Int) (k:Int))] ?_
 refine actG ?_
 refine ag_makeMap (t:=46) (d:=142) kv vBl kr kr rfl h133 ?_
 intro r134 _ h136
 refine nxA ?_
 have h139:=h136.c.c.c.t16
 refine g0<|cP call11 (rt_led mb rg ar yc rq n m zz yy q mq bt ba cp fi tb wd qo lk (nr+1) H) h139 ?_
 rintro v K w140 (⟨p137,c138,rfl,rfl⟩) h141
 have h142:=ap4 h141
 refine g0 ?_
 have h144:sat g _ (Gp kv vBl r134 (fB 0)::_):=sat_imp h142.d.t17 (fun _ q_=>by rw[rf_b0 H];exact q_)
 refine lpS (fun mz_ a w=> ∃i:Nat,∃lr:Fr,mz_=k-i∧(i≤k)∧a=mk 173 (([(7,pV mb),(16,.map (some r134)),(17,.slice p137 k c138),(18,iV i)]:Fr)++lr)∧sat g w [Gp kv vBl r134 (fB i),Mch mb rg m (fD k) (nr+i+1),Cl rg [pV ar,pV yc,pV rq,iV n,iV m,iV zz,iV yy,iV q,iV mq,iV bt,iV ba,iV cp,uV fi,pV tb,pV wd,pV qo,pV lk] 84,Wd wd (fW k),Sl 50 6 p137 k c138 (fl eAt ((fW k).T)),Sl 50 6 p128 k c129 (fl eAt ((fW k).T)),Cl r123 [iV 4,iV 0] 34,Ar0 ar n m (fA k),Cy yc n m 0 (k:Int) 0 at_ nx (k:Int),TW tb 256 (fS k),Cl qo [iV mq,.pointer none] 191,Gp kv vBl r29 (fB k),Rq0 rq q 0,Rpo lk (k:Int) (fE k),Cl r19 [iV n,iV m,iV zz,iV yy,iV q,iV mq,iV bt,iV ba,iV cp,uV fi] 26,Cl r10 [yV (zo%8),yV zm,yV zt,yV zq,yV zu,yV zb,yV zw,yV zl] 23,R]) (k-0) ⟨0,_,rfl,(Nat.zero_le _),(lvF [.k 7 (pV mb),.k 16 (.map (some r134)),.k 17 (.slice p137 k c138),.o 18 (oJ .i64 0 (0:Int))]),h144⟩ ?_
 rintro m146 a147 w148 ⟨i,lr145,rfl,hi_,rfl,h149⟩
 refine ga ?_
 obtain⟨si,A⟩: ∃s:Nat,i/gs=s:=⟨_,rfl⟩;obtain⟨gi,B⟩: ∃g:Int,fi+((i%gs:Nat):Int)=g:=⟨_,rfl⟩;have hRi:Rnd fi gs i si gi ((i:Int)+1) (i+1):=⟨A,B,rfl,rfl⟩;obtain⟨hha_,hhb_,hhc_⟩:=rd_gen hGn hRi
 refine go [.s 33 3] ?_
 by_cases c150:(i:Int)<(k:Int);rotate_left
 ·
  refine go [.v 33 3 (oF _ c150)]<|up<|g0<|cl0 call12 works40_ht h149 fun _ h166=>g0 ?_
  exact enR _ [] h166.p.t1
 obtain⟨b151,hp152⟩:=sl_ptr0 (j:=4) h149 rfl om
 refine go [.v 33 3 (oT _ c150),.s 35 3]<|lwP (.pointer (some ⟨b151,i*6,none⟩)) (liP (Ot 152) (Ot 153) p137 b151 0 (i:Int) k c138 underlying44 6 i hp152 (i*6)) ?_
 have h153:=h149.d.t17
 have hl154:=fl_n eAt_ok dc h153
 refine go [.r 35 5 b151 (i*6+1) [iV 1,iV si,uV gi] ⟨gvc 0 h153 rfl hp152 eAt_ok 1 (iV 1) (rf_T H hRi om) (i*6+1),gvc 0 h153 rfl hp152 eAt_ok 2 (iV si) (rf_T H hRi om) (i*6+2),gvc 0 h153 rfl hp152 eAt_ok 3 (uV gi) (rf_T H hRi om) (i*6+3),trivial⟩] ?_
 refine actG ?_
 refine act_law (d:=157) (.bool false) kr rfl (law_lookupG (t:=46) (z:= .bool false) (m:=Ot 151) (x:=Ot 156) (kv:=kv) (ve:=vBl) kr underlying46 kyO kr (1,(si:Int),gi) kr kr (j:=1) h153 rfl (.bool false) (fun u_ hu_=>by rw[(rf_bN H hGn hRi)] at hu_;cases hu_) (fun _=>rfl)) ?_
 refine nxA<|g0<|cl0 call9 (ut27_4_Op i) h153 fun _ h156=> ?_
 have hsi_:si<8:=rd_lt hRi om hng om om
 refine cl3 call7 (rt_use mb rg ar yc rq n m zz yy q mq bt ba cp fi tb wd qo lk (nr+i+1) H hGn hRi om om om om) h156.i.d.d.t17 fun _ h159=>go [.s 37 3]<|lwP (.pointer (some ⟨b151,i*6,none⟩)) (liP (Ot 167) (Ot 168) p137 b151 0 (i:Int) k c138 underlying44 6 i hp152 (i*6)) ?_
 have h160:=h159.d.t17
 refine go [.r 37 5 b151 (i*6+1) [iV 1,iV si,uV gi] ⟨gvc 3 h159 rfl hp152 eAt_ok 1 (iV 1) (rf_T H hRi om) (i*6+1),gvc 3 h159 rfl hp152 eAt_ok 2 (iV si) (rf_T H hRi om) (i*6+2),gvc 3 h159 rfl hp152 eAt_ok 3 (uV gi) (rf_T H hRi om) (i*6+3),trivial⟩] ?_
 refine actG ?_
 refine ag_mapUpdate (t:=46) (m:=Ot 166) (x:=Ot 171) (y:=(Operand.const (.bool true))) (kv:=kv) (ve:=vBl) kr kr underlying46 kyO (1,(si:Int),gi) true kr kr kr h160 (gset (fB i) (1,(si:Int),gi) true) rfl ?_
 intro w161 h162
 refine nxB<|go [.v 34 1 (oIr ((i:Int)+1))] ?_
 refine enL ?_
 have h163:sat g _ (Gp kv vBl r134 (fB (i+1))::_):=sat_imp h162 (fun _ q_=>by rw[rf_bS H hGn hRi] at q_;exact q_)
 have h164:=h163.i.i.i.i.h.i.h.h.h.t17
 change ∃n',n'<_∧_
 refine⟨(k-(i+1)),by omega,(i+1),_,rfl,om,(lvF [.k 7 (pV mb),.k 16 (.map (some r134)),.k 17 (.slice p137 k c138),.o 18 (oJ .i64 ((i:Int)+1) (((i+1):Nat):Int))]),h164⟩
end Go.Proofs.YtcgkoffnknpgjaaGreatDoor
