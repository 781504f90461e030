/- Walks, printed by my generator P:../tab/gen16.py. -/
import Derived.Test.YtcgkoffnknpgjaaGreatDoorBundle34x
import Derived.Test.YtcgkoffnknpgjaaGreatDoorWfmx
import Derived.Test.YtcgkoffnknpgjaaGreatDoorMenx
import Derived.Test.YtcgkoffnknpgjaaGreatDoorYdrx
namespace Go.Proofs.YtcgkoffnknpgjaaGreatDoor
set_option linter.unusedVariables false
set_option linter.unusedSimpArgs false
open Tryz
set_option maxHeartbeats 4000000
theorem Vc(b n:Nat)(A:List AM)(E:Tm)(RL:List Rs)(x y z hx hy:Int)(L:List UInt8)(s:0≤z)(t:z≤4294967295)(hm:L.length≤1099511627776)(ho:1≤x∧x≤3∧0≤y∧y≤63∧1≤z)(ht: ¬Ag L=0):HQ 206 [pV b,.agg #[iV x,iV y,uV z],sV L,.agg #[iV hx,uV hy]] [BD b n A E RL] (.tuple #[.agg #[iV 0,iV 0,uV 0],iV 16]) [BD b n A E RL]:=by
 refine AC func206 ntmps206 fun g w0 R h0=>g0<|nP 48 [iV x,iV y,uV z] h0 (fun _ _ i=> ?_)
 refine nP 203 [iV hx,uV hy] i (fun _ _ j=> ?_)
 refine nP 39 [iV 0,iV 0,uV 0] j (fun _ _ k=> ?_)
 have l:=k.c.t5
 refine g0<|AF call119 (BF b n A E RL) l fun _ d=>go [rd 3 0 3 0 3 d]<|AP call274 (Xx x y z L om om om om om) d fun _ m=>g0<|nP 226 [iV 0,iV 0,uV 0,iV 0,iV 0,iV 0,iV 0,sV []] m (fun _ _ o=> ?_)
 refine sA [iV 0,iV 0,uV 0,iV 0,iV 0,iV 0,iV 0,sV []] o fun _ p=> ?_
 have q:=p.b.t6
 refine g0<|sA [iV 0,iV 0,uV 0] q fun _ f=>g0 ?_
 exact AD _ [rd 0 0 0 0 3 f] f.b.t6.e.a.t2
theorem Vd(b n:Nat)(A:List AM)(E:Tm)(RL:List Rs)(x y z hx hy:Int)(L:List UInt8)(s:0≤z)(t:z≤4294967295)(hm:L.length≤1099511627776)(ho: ¬(1≤x∧x≤3∧0≤y∧y≤63∧1≤z)):HQ 206 [pV b,.agg #[iV x,iV y,uV z],sV L,.agg #[iV hx,uV hy]] [BD b n A E RL] (.tuple #[.agg #[iV 0,iV 0,uV 0],iV 2]) [BD b n A E RL]:=by
 refine AC func206 ntmps206 fun g w0 R h0=>g0<|nP 48 [iV x,iV y,uV z] h0 (fun _ _ i=> ?_)
 refine nP 203 [iV hx,uV hy] i (fun _ _ j=> ?_)
 refine nP 39 [iV 0,iV 0,uV 0] j (fun _ _ k=> ?_)
 have l:=k.c.t5
 refine g0<|AF call119 (BF b n A E RL) l fun _ d=>go [rd 3 0 3 0 3 d]<|AP call274 (dM x y z L om om om om) d fun _ m=>g0<|nP 226 [iV 0,iV 0,uV 0,iV 0,iV 0,iV 0,iV 0,sV []] m (fun _ _ o=> ?_)
 refine sA [iV 0,iV 0,uV 0,iV 0,iV 0,iV 0,iV 0,sV []] o fun _ p=> ?_
 have q:=p.b.t6
 refine g0<|sA [iV 0,iV 0,uV 0] q fun _ f=>g0 ?_
 exact AD _ [rd 0 0 0 0 3 f] f.b.t6.e.a.t2
theorem Ve(b n:Nat)(A:List AM)(E:Tm)(RL:List Rs)(x y z hx hy:Int)(L:List UInt8)(G:0≤z)(H:z≤4294967295)(hm:L.length≤1099511627776)(ho:1≤x∧x≤3∧0≤y∧y≤63∧1≤z)(ht:Ag L=0)(hob:hx<0∨255<hx∨hy≤0):HQ 206 [pV b,.agg #[iV x,iV y,uV z],sV L,.agg #[iV hx,uV hy]] [BD b n A E RL] (.tuple #[.agg #[iV 0,iV 0,uV 0],iV 2]) [BD b n A E RL]:=by
 refine AC func206 ntmps206 fun g w0 R h0=>g0<|nP 48 [iV x,iV y,uV z] h0 (fun _ _ l=> ?_)
 refine nP 203 [iV hx,uV hy] l (fun _ _ m=> ?_)
 refine nP 39 [iV 0,iV 0,uV 0] m (fun _ _ o=> ?_)
 have p:=o.c.t5
 refine g0<|AF call119 (BF b n A E RL) p fun _ f=>go [rd 3 0 3 0 3 f]<|AP call274 (Hm x y z L om om om om om) f fun _ q=>g0<|nP 226 [iV 0,iV 0,uV 0,iV 0,iV 0,iV 0,iV 0,sV []] q (fun _ _ s=> ?_)
 refine sA [iV x,iV y,uV z,iV 1,iV 0,iV 0,iV 0,sV L] s fun _ d=>go [rd 6 0 3 0 2 d] ?_
 by_cases I:0≤hx
 ·
  by_cases J:hx≤255
  ·
   refine AP call275 (X4 hx hy om) d fun _ t=> ?_
   have u:=t.b.t6
   refine g0<|sA [iV 0,iV 0,uV 0] u fun _ i=>g0 ?_
   exact AD _ [rd 0 0 0 0 3 i] i.b.t6.e.a.t2
  refine AP call275 (X4 hx hy om) d fun _ B=> ?_
  have C:=B.b.t6
  refine g0<|sA [iV 0,iV 0,uV 0] C fun _ j=>g0 ?_
  exact AD _ [rd 0 0 0 0 3 j] j.b.t6.e.a.t2
 refine AP call275 (X4 hx hy om) d fun _ D=> ?_
 have F:=D.b.t6
 refine g0<|sA [iV 0,iV 0,uV 0] F fun _ k=>g0 ?_
 exact AD _ [rd 0 0 0 0 3 k] k.b.t6.e.a.t2
theorem R6(b n:Nat)(A:List AM)(E:Tm)(RL:List Rs)(x y z hx hy:Int)(L:List UInt8)(J:0≤z)(M:z≤4294967295)(hm:L.length≤1099511627776)(ho:1≤x∧x≤3∧0≤y∧y≤63∧1≤z)(ht:Ag L=0)(hob:0≤hx∧hx≤255∧1≤hy)(hc: ∃r∈RL,r.out=(x,y,z)):HQ 206 [pV b,.agg #[iV x,iV y,uV z],sV L,.agg #[iV hx,uV hy]] [BD b n A E RL] (.tuple #[.agg #[iV 0,iV 0,uV 0],iV 6]) [BD b n A E RL]:=by
 refine AC func206 ntmps206 fun g w0 R h0=>g0<|nP 48 [iV x,iV y,uV z] h0 (fun m _ o=> ?_)
 refine nP 203 [iV hx,uV hy] o (fun N _ p=> ?_)
 refine nP 39 [iV 0,iV 0,uV 0] p (fun O _ q=> ?_)
 have s:=q.c.t5
 refine g0<|AF call119 (BF b n A E RL) s fun _ i=>go [rd 3 0 3 0 3 i]<|AP call274 (Hm x y z L om om om om om) i fun _ t=>g0<|nP 226 [iV 0,iV 0,uV 0,iV 0,iV 0,iV 0,iV 0,sV []] t (fun P _ u=> ?_)
 refine sA [iV x,iV y,uV z,iV 1,iV 0,iV 0,iV 0,sV L] u fun _ j=>go [rd 6 0 3 0 2 j]<|AP call275 (T3 hx hy om) j fun _ B=> ?_
 obtain⟨Q,S,C,D,E36,hM37,k⟩:=Ay B.a.t6
 have hRl_:=hM37.2
 have F:=k.x.d.t9
 refine go [rd 8 3 0 2 1 k]<|DF call276 (mZ C RL.length D m RL x y z hc om) F fun _ G=> ?_
 have H:=G.f.t9
 refine g0<|sA [iV 0,iV 0,uV 0] H fun T l=>g0 ?_
 have I:sat g _ (BD b n A E RL::_):=AV hM37.1 om (by first|rfl |omega) l.a.e.e.e.t9
 exact AD _ [rd 0 0 0 0 3 l] I.e.a.t2
theorem R7(b n:Nat)(A:List AM)(E:Tm)(RL:List Rs)(x y z hx hy:Int)(L:List UInt8)(J:0≤z)(M:z≤4294967295)(hm:L.length≤1099511627776)(ho:1≤x∧x≤3∧0≤y∧y≤63∧1≤z)(ht:Ag L=0)(hob:0≤hx∧hx≤255∧1≤hy)(hc: ∀r∈RL,r.out≠(x,y,z))(hh: ∃e∈Ac E,e.h=(hx,hy)):HQ 206 [pV b,.agg #[iV x,iV y,uV z],sV L,.agg #[iV hx,uV hy]] [BD b n A E RL] (.tuple #[.agg #[iV 0,iV 0,uV 0],iV 6]) [BD b n A E RL]:=by
 refine AC func206 ntmps206 fun g w0 R h0=>g0<|nP 48 [iV x,iV y,uV z] h0 (fun m _ o=> ?_)
 refine nP 203 [iV hx,uV hy] o (fun N _ p=> ?_)
 refine nP 39 [iV 0,iV 0,uV 0] p (fun O _ q=> ?_)
 have s:=q.c.t5
 refine g0<|AF call119 (BF b n A E RL) s fun _ f=>go [rd 3 0 3 0 3 f]<|AP call274 (Hm x y z L om om om om om) f fun _ t=>g0<|nP 226 [iV 0,iV 0,uV 0,iV 0,iV 0,iV 0,iV 0,sV []] t (fun P _ u=> ?_)
 refine sA [iV x,iV y,uV z,iV 1,iV 0,iV 0,iV 0,sV L] u fun _ i=>go [rd 6 0 3 0 2 i]<|AP call275 (T3 hx hy om) i fun _ B=> ?_
 obtain⟨Q,S,C,D,E36,hM37,j⟩:=Ay B.a.t6
 have hRl_:=hM37.2
 have F:=j.x.d.t9
 refine go [rd 8 3 0 2 1 j]<|DF call276 (R4 C RL.length D m RL x y z hc om) F fun T k=> ?_
 have G:sat g _ (BD b n A E RL::_):=AV hM37.1 om (by first|rfl |omega) k.d.d.d.t9
 refine go [rd 8 8 7 0 2 k]<|AF call278 (mY b n A E RL hx hy hh) G fun _ H=> ?_
 have I:=H.c.t6
 refine g0<|sA [iV 0,iV 0,uV 0] I fun _ l=>g0 ?_
 exact AD _ [rd 0 0 0 0 3 l] l.a.t6.e.a.t2
theorem R8(b n:Nat)(A:List AM)(E:Tm)(RL:List Rs)(x y z hx hy:Int)(L:List UInt8)(X:0≤z)(Y:z≤4294967295)(hm:L.length≤1099511627776)(ho:1≤x∧x≤3∧0≤y∧y≤63∧1≤z)(ht:Ag L=0)(hob:0≤hx∧hx≤255∧1≤hy)(hc: ∀r∈RL,r.out≠(x,y,z))(hh: ∀e∈Ac E,e.h≠(hx,hy))(hl:RL.length=2000∨(AJ 0 A 0).length=0):HQ 206 [pV b,.agg #[iV x,iV y,uV z],sV L,.agg #[iV hx,uV hy]] [BD b n A E RL] (.tuple #[.agg #[iV 0,iV 0,uV 0],iV 4]) [BD b n A E RL]:=by
 refine AC func206 ntmps206 fun g w0 R h0=>g0<|nP 48 [iV x,iV y,uV z] h0 (fun t _ u=> ?_)
 refine nP 203 [iV hx,uV hy] u (fun Z _ B=> ?_)
 refine nP 39 [iV 0,iV 0,uV 0] B (fun aa _ C=> ?_)
 have D:=C.c.t5
 refine g0<|AF call119 (BF b n A E RL) D fun _ j=>go [rd 3 0 3 0 3 j]<|AP call274 (Hm x y z L om om om om om) j fun _ F=>g0<|nP 226 [iV 0,iV 0,uV 0,iV 0,iV 0,iV 0,iV 0,sV []] F (fun ab _ G=> ?_)
 refine sA [iV x,iV y,uV z,iV 1,iV 0,iV 0,iV 0,sV L] G fun _ k=>go [rd 6 0 3 0 2 k]<|AP call275 (T3 hx hy om) k fun _ H=> ?_
 obtain⟨ac,ad,I,J,E36,hM37,l⟩:=Ay H.a.t6
 have hRl_:=hM37.2
 have M:=l.x.d.t9
 refine go [rd 8 3 0 2 1 l]<|DF call276 (R4 I RL.length J t RL x y z hc om) M fun ae m=> ?_
 have N:sat g _ (BD b n A E RL::_):=AV hM37.1 om (by first|rfl |omega) m.d.d.d.t9
 refine go [rd 8 8 7 0 2 m]<|AF call278 (X9 b n A E RL hx hy hh) N fun _ O=> ?_
 obtain⟨P,af,ag,ah,E50,hM51,i⟩:=Ay O
 have hRl_:=hM51.2
 refine go [rd 10 3 0 2 1 i,.s 10 5] ?_
 by_cases o:(RL.length:Int)≥2000
 ·
  have Q:=i.f.t9
  refine go [.v 10 5 (oT _ o)]<|sA [iV 0,iV 0,uV 0] Q fun ai p=>g0 ?_
  have S:sat g _ (BD b n A E RL::_):=AV hM51.1 om (by first|rfl |omega) p.d.d.d.d.t9
  exact AD _ [rd 0 0 0 0 3 p] S.e.a.t2
 have T:=i.a.t9
 refine go [.v 10 5 (oF _ o),rd 10 10 0 0 1 i]<|AF call279 (Hj P n A) T fun _ U=> ?_
 have V:=U.f.t9
 refine go [.v 10 12 (G9 (((AJ 0 A 0).length:Nat):Int) 0)]<|sA [iV 0,iV 0,uV 0] V fun aj q=>g0 ?_
 have W:sat g _ (BD b n A E RL::_):=AV hM51.1 om (by first|rfl |omega) q.d.d.c.d.t9
 exact AD _ [rd 0 0 0 0 3 q] W.e.a.t2
theorem YD(b n:Nat)(A:List AM)(E:Tm)(RL:List Rs)(x y z hx hy:Int)(L:List UInt8)(al:0≤z)(am:z≤4294967295)(hm:L.length≤1099511627776)(ho:1≤x∧x≤3∧0≤y∧y≤63∧1≤z)(ht:Ag L=0)(hob:0≤hx∧hx≤255∧1≤hy)(hc: ∀r∈RL,r.out≠(x,y,z))(hh: ∀e∈Ac E,e.h≠(hx,hy))(hl:RL.length<2000)(j:Nat)(gj:Int)(hj:(AJ 0 A 0)[0]? =some (j,gj))(hfl_:1≤(AJ 0 A 0).length):HQ 206 [pV b,.agg #[iV x,iV y,uV z],sV L,.agg #[iV hx,uV hy]] [BD b n A E RL] (.tuple #[.agg #[iV x,iV j,uV gj],iV 0]) [BD b n (A.set j (1,gj)) (Au E (j:Int) ⟨(x,(j:Int),gj),(RL.length:Int)+1,(hx,hy)⟩) (RL++ [(⟨(x,y,z),1,0,0,0,L⟩:Rs)])]:=by
 refine AC func206 ntmps206 fun g w0 R h0=>g0<|nP 48 [iV x,iV y,uV z] h0 (fun H _ I=> ?_)
 refine nP 203 [iV hx,uV hy] I (fun ao _ J=> ?_)
 refine nP 39 [iV 0,iV 0,uV 0] J (fun ap _ M=> ?_)
 have N:=M.c.t5
 refine g0<|AF call119 (BF b n A E RL) N fun _ p=>go [rd 3 0 3 0 3 p]<|AP call274 (Hm x y z L om om om om om) p fun _ O=>g0<|nP 226 [iV 0,iV 0,uV 0,iV 0,iV 0,iV 0,iV 0,sV []] O (fun aq _ P=> ?_)
 refine sA [iV x,iV y,uV z,iV 1,iV 0,iV 0,iV 0,sV L] P fun _ q=>go [rd 6 0 3 0 2 q]<|AP call275 (T3 hx hy om) q fun _ Q=> ?_
 obtain⟨ar,au,S,T,E36,hM37,s⟩:=Ay Q.a.t6
 have hRl_:=hM37.2
 have U:=s.x.d.t9
 refine go [rd 8 3 0 2 1 s]<|DF call276 (R4 S RL.length T H RL x y z hc om) U fun av t=> ?_
 have V:sat g _ (BD b n A E RL::_):=AV hM37.1 om (by first|rfl |omega) t.d.d.d.t9
 refine go [rd 8 8 7 0 2 t]<|AF call278 (X9 b n A E RL hx hy hh) V fun _ W=> ?_
 obtain⟨u,X,Y,Z,E50,hM51,l⟩:=Ay W
 have hRl_:=hM51.2
 have aa:=l.a.t9
 refine go [rd 10 3 0 2 1 l,.v 10 5 (oF ((RL.length:Int)≥2000)),rd 10 10 0 0 1 l]<|AF call279 (Hj u n A) aa fun _ ab=>go [.v 10 12 (DR (((AJ 0 A 0).length:Nat):Int) 0)]<|dw (AE [0,1,2,3,4,5] (Tr.an 6 (Tr.an 7 (AE [8,9] (Tr.an 10 Tr.nil))))) ab fun _ m=>go [rd 12 4 1 2 1 m,rd 12 5 5 0 8 m]<|nG (fun q_=> .slice (some ⟨q_,0,none⟩) 1 1) 226 [iV x,iV y,uV z,iV 1,iV 0,iV 0,iV 0,sV L] m (fun ac _ B=>⟨kd [rd 0 4 2 2 1 B],?_⟩)
 have C:=B.d.t10
 refine AH ?_
 refine aA 67 8 (Ot 64) (Ot 66) (.agg #[iV 0,iV 0,uV 0,iV 0,iV 0,iV 0,iV 0,sV []]) Y RL.length Z 1 1 (⟨ac,0,none⟩) 72 underlying175 C (fl DG [(⟨(x,y,z),1,0,0,0,L⟩:Rs)]) rfl (Br C rfl) (Aw Ah _) (RL.length+1) ?_
 intro i k aw ad
 have D:sat g _ (Sl 226 8 i (RL.length+1) k (fl DG (RL++ [(⟨(x,y,z),1,0,0,0,L⟩:Rs)]))::_):=sJ ad
 obtain⟨ax,ay⟩:=BH D
 refine⟨kd [],DE ?_⟩
 have ae:=D.c.t10
 refine g0<|sG [(2,.slice i (RL.length+1) k)] [pV u,.map (some X),.slice i (RL.length+1) k] ae fun _ af=>⟨kd [],?_⟩
 refine g0<|dw (AE [0,1,2,3,4,5,6] (Tr.an 7 (AE [8,9] (Tr.an 10 (Tr.fl 11 Tr.nil))))) af fun az o=> ?_
 have ag:sat g _ (VY b n A E (RL++ [(⟨(x,y,z),1,0,0,0,L⟩:Rs)]) i (RL.length+1) k::_):=KJ hM51.1 (by simp only[List.length_append,List.length_set,List.length_cons,List.length_nil];omega) o.d.d.b.t10
 refine go [rd 13 4 0 2 1 o,.v 13 5 (oJ .i64 ((RL.length+1:Nat):Int) ((RL.length:Int)+1)),rd 13 6 8 0 2 o]<|BZ call280 (X8 i (RL.length+1) k b n A E (RL++ [(⟨(x,y,z),1,0,0,0,L⟩:Rs)]) ((RL.length:Int)+1) hx hy RL.length (⟨(x,y,z),1,0,0,0,L⟩:Rs) (show (RL++ [(⟨(x,y,z),1,0,0,0,L⟩:Rs)])[RL.length]? =some ((⟨(x,y,z),1,0,0,0,L⟩:Rs):Rs) from List.getElem?_concat_length) om j gj hj) ag fun _ ah=>⟨kd [],?_⟩
 have ai:=ah.d.t7
 refine g0<|sB [iV x,iV j,uV gj] ai fun ba F=>⟨kd [],?_⟩
 refine g0 ?_
 obtain⟨bb,bc,E86,hM87,aj⟩:=MT F.a.t7
 have hRl_:=hM87.2
 have G:=aj.c.t10
 have bd:=Ca Ah dc G
 have ak:sat g _ (BD b n (A.set j (1,gj)) (Au E (j:Int) ⟨(x,(j:Int),gj),(RL.length:Int)+1,(hx,hy)⟩) (RL++ [(⟨(x,y,z),1,0,0,0,L⟩:Rs)])::_):=AV hM87.1 (by simp only[List.length_append,List.length_set,List.length_cons,List.length_nil];omega) (by simp only[List.length_append,List.length_set,List.length_cons,List.length_nil]) G.c.c.c.t10
 exact AD (.tuple #[.agg #[iV x,iV j,uV gj],iV 0]) [rd 0 0 0 0 3 F] ak.f.a.t2
theorem dV(b n:Nat)(A:List AM)(E:Tm)(RL:List Rs)(vn x y z st why tr nx:Int)(L:List UInt8)(h:vn<1∨(RL.length:Int)<vn):HQ 316 [pV b,iV vn,.agg #[iV x,iV y,uV z,iV st,iV why,iV tr,iV nx,sV L]] [BD b n A E RL] (iV 3) [BD b n A E RL]:=by
 refine AC func316 ntmps316 fun g w0 R h0=>g0<|nP 226 [iV x,iV y,uV z,iV st,iV why,iV tr,iV nx,sV L] h0 (fun _ _ d=> ?_)
 have e:=d.a.t3
 refine g0<|AF call210 (T5 b n A E RL vn om) e fun _ f=>g0<|nP 226 [iV 0,iV 0,uV 0,iV 0,iV 0,iV 0,iV 0,sV []] f (fun _ _ i=> ?_)
 refine sA [iV 0,iV 0,uV 0,iV 0,iV 0,iV 0,iV 0,sV []] i fun _ j=>g0 ?_
 exact AD _ [] j.a.t4.c.a.t2
theorem YE(b n:Nat)(A:List AM)(E:Tm)(RL:List Rs)(vn x y z st why tr nx:Int)(L:List UInt8)(l:0≤z)(m:z≤4294967295)(hm:L.length≤1099511627776)(q:Nat)(r:Rs)(hr:RL[q]? =some r)(hv:vn=(q:Int)+1)(hne: ¬DH x y z st why tr nx L=0):HQ 316 [pV b,iV vn,.agg #[iV x,iV y,uV z,iV st,iV why,iV tr,iV nx,sV L]] [BD b n A E RL] (iV (DH x y z st why tr nx L)) [BD b n A E RL]:=by
 have hq_:=(List.getElem?_eq_some_iff.1 hr).1
 refine AC func316 ntmps316 fun g w0 R h0=>g0<|nP 226 [iV x,iV y,uV z,iV st,iV why,iV tr,iV nx,sV L] h0 (fun _ _ e=> ?_)
 have f:=e.a.t3
 refine g0<|AF call210 (FY b n A E RL vn q r hr om) f fun _ i=>g0<|nP 226 [iV 0,iV 0,uV 0,iV 0,iV 0,iV 0,iV 0,sV []] i (fun _ _ j=> ?_)
 refine sA [iV r.out.1,iV r.out.2.1,uV r.out.2.2,iV r.st,iV r.why,iV r.tr,iV r.nx,sV r.tag] j fun _ d=>go [rd 4 0 2 0 8 d]<|AP call352 (DW x y z st why tr nx L om om om) d fun _ k=>go [.v 5 1 (Tc (DH x y z st why tr nx L) 0)] ?_
 exact AD _ [] k.a.t4.c.a.t2
structure Ts where
 A:List AM
 E:Tm
 R:List Rs
def EO(d:Ky):Prop:=1≤d.1∧d.1≤3∧0≤d.2.1∧d.2.1≤255∧1≤d.2.2
instance (d:Ky):Decidable (EO d):=by unfold EO;infer_instance
def JU(h:Int×Int):Prop:=0≤h.1∧h.1≤255∧1≤h.2
instance (h:Int×Int):Decidable (JU h):=by unfold JU;infer_instance
def xT:Rs:=⟨(0,0,0),0,0,0,0,[]⟩
def FZ(r:Rs):Int:=DH r.out.1 r.out.2.1 r.out.2.2 r.st r.why r.tr r.nx r.tag
def Vf(S:Ts)(d:Ky):Option Ety:=match Aa S.E d.2.1 with
 |some e=>if e.d=d then some e else none
 |none=>none
def Ba(S:Ts)(d:Ky):Int:=if EO d then (if (Vf S d).isSome then 0 else 7) else 2
def CR(S:Ts)(d:Ky):Ety:=if Ba S d=0 then (Vf S d).getD B7 else B7
def By(A:List AM):Option (Nat×Int):=(AJ 0 A 0)[0]?
def Po(E:Tm)(h:Int×Int):Prop:= ∃e∈Ac E,e.h=h
instance (E:Tm) (h:Int×Int):Decidable (Po E h):=by unfold Po;infer_instance
def Pp(R:List Rs)(o:Ky):Prop:= ∃r∈R,r.out=o
instance (R:List Rs) (o:Ky):Decidable (Pp R o):=by unfold Pp;infer_instance
def YF(S:Ts)(k num:Int)(h:Int×Int):Ts:=match By S.A with
 |some (j,g)=>⟨S.A.set j (1,g),Au S.E (j:Int) ⟨(k,(j:Int),g),num,h⟩,S.R⟩
 |none=>S
def nA(A:List AM)(k:Int):Ky:=match By A with
 |some (j,g)=>(k,(j:Int),g)
 |none=>(0,0,0)
def Nh(o:Ky)(L:List UInt8):Int:=DH o.1 o.2.1 o.2.2 1 0 0 0 L
def Dv(S:Ts)(o:Ky)(L:List UInt8)(h:Int×Int):Int:=if Nh o L≠0 then Nh o L else if ¬JU h then 2 else if Pp S.R o∨Po S.E h then 6 else if 2000≤S.R.length∨By S.A=none then 4 else 0
def FE(S:Ts)(o:Ky)(L:List UInt8)(h:Int×Int):Ts:=if Dv S o L h=0 then YF ⟨S.A,S.E,S.R++ [⟨o,1,0,0,0,L⟩]⟩ o.1 ((S.R.length:Int)+1) h else S
def FF(S:Ts)(o:Ky)(L:List UInt8)(h:Int×Int):Ky:=if Dv S o L h=0 then nA S.A o.1 else (0,0,0)
def Ho(S:Ts)(d:Ky):Ts:=⟨Ak S.A d.2.1.toNat d.2.2,C0 S.E d.2.1,S.R⟩
def Dw(S:Ts)(d:Ky):Ts:=if Ba S d=0 then Ho S d else S
def EC(S:Ts)(d:Ky):Bool:=decide (Ba S d=0∧(Ch (Ho S d).E (CR S d).num).length=0)
def bV(S:Ts)(v:Int):Ety:=(Aa S.E v).getD B7
def nE(S:Ts)(v:Int):Int:=if 1≤v∧v≤(S.R.length:Int) then 0 else 3
def AZ(S:Ts)(v:Int):Rs:=if 1≤v then (S.R[(v-1).toNat]?).getD xT else xT
def CS(S:Ts)(v:Int)(r:Rs):Int:=if nE S v≠0 then 3 else if FZ r≠0 then FZ r else if r.out≠(AZ S v).out∨r.tag≠(AZ S v).tag then 2 else if r.st≠1∧0<(Ch S.E v).length then 8 else 0
def Cc(S:Ts)(v:Int)(r:Rs):Ts:=if CS S v r=0 then ⟨S.A,S.E,S.R.set (v-1).toNat r⟩ else S
def Ci(R:List Rs)(st:Int)(k:Nat):List Int:=((List.range k).filter fun i=>(R[i]?).any fun r=>r.st==st).map fun i:Nat=>(i:Int)+1
def AT(R:List Rs)(st:Int):List Int:=Ci R st R.length
structure Wf (n:Nat) (S:Ts):Prop where
 len:S.A.length=n
 bd:1≤n∧n≤256
 ok:KE S.A
 rl:S.R.length≤2000
 nd:KN S.E
 ent: ∀(k:Int) (e:Ety),Aa S.E k=some e→(∃q:Nat,k=(q:Int)∧S.A[q]? =some (1,e.d.2.2))∧e.d.2.1=k∧(∃(q:Nat) (r:Rs),S.R[q]? =some r∧e.num=(q:Int)+1∧r.out.1=e.d.1∧r.st=1)∧JU e.h
 tak: ∀(q:Nat) (g:Int),S.A[q]? =some (1,g)→ ∃e,Aa S.E (q:Int)=some e
 res: ∀r∈S.R,FZ r=0
 out:(S.R.map (·.out)).Nodup
 og: ∀r∈S.R,r.out.2.2≤4294967295
 hnd: ∀(k1 k2:Int) (e1 e2:Ety),Aa S.E k1=some e1→Aa S.E k2=some e2→e1.h=e2.h→k1=k2
theorem fndO_some{S:Ts}{d:Ky}{e:Ety}:Vf S d=some e↔Aa S.E d.2.1=some e∧e.d=d:=by
 unfold Vf
 cases h:Aa S.E d.2.1 with
 |none=>simp
 |some x=>
  simp only
  split
  · rename_i hx
    constructor
    · intro he
      obtain rfl:=Option.some.inj he
      exact⟨rfl,hx⟩
    · rintro⟨he,_⟩
      exact he
  · rename_i hx
    constructor
    · intro he;cases he
    · rintro⟨he,h2⟩
      obtain rfl:=Option.some.inj he
      exact absurd h2 hx
theorem fndE_ok{S:Ts}{d:Ky}:Ba S d=0↔EO d∧ ∃e,Aa S.E d.2.1=some e∧e.d=d:=by
 unfold Ba
 split
 · rename_i hg
   cases h:Vf S d with
   |none=>
    simp only[Option.isSome_none,Bool.false_eq_true,if_false]
    constructor
    · intro a;omega
    · rintro⟨_,e,he⟩
      have:=fndO_some.2 he
      rw[h] at this
      cases this
   |some e=>simp only[Option.isSome_some,if_true];exact⟨fun _=>⟨hg,e,fndO_some.1 h⟩,fun _=>trivial⟩
 · rename_i hg
   constructor
   · intro a;omega
   · rintro⟨a,_⟩;exact absurd a hg
theorem T7{S:Ts}{d:Ky}{e:Ety}(hg:EO d)(a:Aa S.E d.2.1=some e)(b:e.d=d):Ba S d=0∧CR S d=e:=by
 have c:Ba S d=0:=fndE_ok.2 ⟨hg,e,a,b⟩
 refine⟨c,?_⟩
 unfold CR
 rw[if_pos c,fndO_some.2 ⟨a,b⟩]
 rfl
theorem YG{S:Ts}{d:Ky}(hg: ¬EO d):Ba S d=2∧CR S d=B7:=by
 have h0:Ba S d=2:=if_neg hg
 refine⟨h0,?_⟩
 unfold CR
 rw[if_neg om]
theorem T8{S:Ts}{d:Ky}(hg:EO d)(h: ∀e,Aa S.E d.2.1=some e→e.d≠d):Ba S d=7∧CR S d=B7:=by
 have h0:Ba S d=7:=by
  unfold Ba
  rw[if_pos hg]
  cases h2:Vf S d with
  |none=>rfl
  |some e=>exact absurd (fndO_some.1 h2).2 (h e (fndO_some.1 h2).1)
 refine⟨h0,?_⟩
 unfold CR
 rw[if_neg om]
theorem MX(S:Ts)(d:Ky):(¬EO d∧Ba S d=2∧CR S d=B7)∨(EO d∧(∀e,Aa S.E d.2.1=some e→e.d≠d)∧Ba S d=7∧CR S d=B7)∨(EO d∧ ∃e,Aa S.E d.2.1=some e∧e.d=d∧Ba S d=0∧CR S d=e):=by
 by_cases hg:EO d
 · by_cases h: ∃e,Aa S.E d.2.1=some e∧e.d=d
   · obtain⟨e,a,b⟩:=h
     exact .inr (.inr ⟨hg,e,a,b,T7 hg a b⟩)
   · have h': ∀e,Aa S.E d.2.1=some e→e.d≠d:=fun e a b=>h ⟨e,a,b⟩
     exact .inr (.inl ⟨hg,h',T8 hg h'⟩)
 · exact .inl ⟨hg,YG hg⟩
theorem mem_allE{E:Tm}{e:Ety}:e∈Ac E↔ ∃k:Nat,k<256∧Aa E (k:Int)=some e:=by
 unfold Ac Bp
 rw[List.mem_filterMap]
 constructor
 · rintro⟨k,hk,he⟩;exact⟨k,List.mem_range.1 hk,he⟩
 · rintro⟨k,hk,he⟩;exact⟨k,List.mem_range.2 hk,he⟩
theorem KM{A:List AM}{j:Nat}{g:Int}(h:By A=some (j,g)):A[j]? =some (0,g):=by
 have:=(Eg h).2
 simpa using this
theorem freeS_none{A:List AM}:By A=none↔(AJ 0 A 0).length=0:=by
 unfold By
 rw[List.getElem?_eq_none_iff]
 omega
theorem MY{A:List AM}{q:Nat}{z:Int}{j:Nat}(h:j≠q):(Ak A q z)[j]? =A[j]? :=by
 unfold Ak
 split
 · rw[List.getElem?_set_ne (Ne.symm h)]
 · rw[List.getElem?_set_ne (Ne.symm h)]
theorem R9{A:List AM}{q:Nat}{z:Int}(h:q<A.length):(Ak A q z)[q]? =some (if z<4294967295 then (0,z+1) else (2,z)):=by
 unfold Ak
 split
 · rw[List.getElem?_set_self h]
 · rw[List.getElem?_set_self h]
theorem Vg(A:List AM)(q:Nat)(z:Int):(Ak A q z).length=A.length:=by unfold Ak;split<;>rw[List.length_set]
theorem Hq{n:Nat}{S:Ts}(W:Wf n S){k:Int}{e:Ety}(h:Aa S.E k=some e): ∃q:Nat,k=(q:Int)∧q<n∧S.A[q]? =some (1,e.d.2.2):=by
 obtain⟨⟨q,h1,a⟩,_⟩:=W.ent k e h
 exact⟨q,h1,by have:=(List.getElem?_eq_some_iff.1 a).1;rw[W.len] at this;exact this,a⟩
theorem SA{n:Nat}{S:Ts}(W:Wf n S){k:Int}{e:Ety}(h:Aa S.E k=some e):e∈Ac S.E:=by
 obtain⟨q,h1,h2,_⟩:=Hq W h
 exact mem_allE.2 ⟨q,by have:=W.bd.2;omega,by rw[←h1];exact h⟩
theorem dW{n:Nat}{S:Ts}(W:Wf n S){k:Int}{e:Ety}(h:Aa S.E k=some e):EO e.d:=by
 obtain⟨⟨q,h1,h2⟩,h3,⟨p,r,hp,_,hk,_⟩,_⟩:=W.ent k e h
 obtain⟨q',h1',h2',_⟩:=Hq W h
 have hr:=W.res r (List.mem_of_getElem? hp)
 have hs:=W.ok _ (List.mem_of_getElem? h2)
 have hb:=W.bd.2
 unfold FZ DH at hr
 split at hr
 · rename_i hpos
   have hx:=hpos.1
   unfold EO
   simp only at hs
   omega
 · omega
theorem nB{n:Nat}{S:Ts}(W:Wf n S){k num:Int}{h:Int×Int}{q:Nat}{r:Rs}(hr:S.R[q]? =some r)(hn:num=(q:Int)+1)(hk:r.out.1=k)(hst:r.st=1)(ho:JU h)(hh: ¬Po S.E h):Wf n (YF S k num h):=by
 unfold YF
 cases hf:By S.A with
 |none=>exact W
 |some p=>
  obtain⟨j,g⟩:=p
  have hj:=KM hf
  have hjl:=(List.getElem?_eq_some_iff.1 hj).1
  have hno:Aa S.E (j:Int)=none:=by
   cases hg:Aa S.E (j:Int) with
   |none=>rfl
   |some e=>
    obtain⟨c,b,_,a⟩:=Hq W hg
    obtain rfl:j=c:=by omega
    rw[hj] at a
    simp at a
  refine⟨by simp only[List.length_set];exact W.len,W.bd,Hf W.ok (by have:=W.ok _ (List.mem_of_getElem? hj);simp only at this ⊢;omega),W.rl,Nc W.nd,?_,?_,W.res,W.out,W.og,?_⟩
  · intro d e2 he
    simp only at he
    rw[E7] at he
    split at he
    · rename_i hk2
      obtain rfl:=Option.some.inj he
      refine⟨⟨j,hk2,List.getElem?_set_self hjl⟩,hk2.symm,⟨q,r,hr,hn,hk,hst⟩,ho⟩
    · rename_i hk2
      obtain⟨⟨c,b,a⟩,h3,h4,h5⟩:=W.ent d e2 he
      refine⟨⟨c,b,?_⟩,h3,h4,h5⟩
      simp only
      rw[List.getElem?_set_ne (by rintro rfl;exact hk2 b)]
      exact a
  · intro c g2 hq
    simp only at hq ⊢
    rw[E7]
    split
    · exact⟨_,rfl⟩
    · rename_i hq2
      rw[List.getElem?_set_ne (by rintro rfl;exact hq2 rfl)] at hq
      exact W.tak c g2 hq
  · intro k1 d e1 e2 b a he
    simp only at b a
    rw[E7] at b a
    split at b
    · rename_i hk1
      split at a
      · rename_i hk2;rw[hk1,hk2]
      · obtain rfl:=Option.some.inj b
        exact absurd ⟨e2,SA W a,he.symm⟩ hh
    · split at a
      · obtain rfl:=Option.some.inj a
        exact absurd ⟨e1,SA W b,he⟩ hh
      · exact W.hnd k1 d e1 e2 b a he
theorem SB(o:Ky)(L:List UInt8):(¬(1≤o.1∧o.1≤3∧0≤o.2.1∧o.2.1≤63∧1≤o.2.2)∧Nh o L=2)∨((1≤o.1∧o.1≤3∧0≤o.2.1∧o.2.1≤63∧1≤o.2.2)∧Nh o L=Ag L):=by
 unfold Nh DH CH
 by_cases h:1≤o.1∧o.1≤3∧0≤o.2.1∧o.2.1≤63∧1≤o.2.2
 · exact .inr ⟨h,if_pos ⟨h,.inl ⟨rfl,rfl,rfl,rfl⟩⟩⟩
 · exact .inl ⟨h,if_neg fun h2=>h h2.1⟩
theorem dX{S:Ts}{o:Ky}{L:List UInt8}{h:Int×Int}(a:Dv S o L h=0):Nh o L=0∧JU h∧ ¬Pp S.R o∧ ¬Po S.E h∧S.R.length<2000∧ ∃j g,By S.A=some (j,g):=by
 unfold Dv at a
 by_cases c:Nh o L=0
 · rw[if_neg om] at a
   by_cases b:JU h
   · rw[if_neg (by simpa using b)] at a
     split at a
     · omega
     · rename_i h3
       split at a
       · omega
       · rename_i h4
         refine⟨c,b,fun hh=>h3 (.inl hh),fun hh=>h3 (.inr hh),by omega,?_⟩
         cases hf:By S.A with
         |none=>exact absurd (.inr hf) h4
         |some p=>exact⟨p.1,p.2,rfl⟩
   · rw[if_pos b] at a;omega
 · rw[if_pos c] at a;omega
theorem nD{n:Nat}{S:Ts}(W:Wf n S){r:Rs}(hl:S.R.length<2000)(hr:FZ r=0)(ho: ¬Pp S.R r.out)(hg:r.out.2.2≤4294967295):Wf n ⟨S.A,S.E,S.R++ [r]⟩:=by
 refine⟨W.len,W.bd,W.ok,by simp only[List.length_append,List.length_cons,List.length_nil];omega,W.nd,?_,W.tak,?_,?_,?_,W.hnd⟩
 · intro k e he
   obtain⟨h1,f,⟨q,d,c,i⟩,h5⟩:=W.ent k e he
   exact⟨h1,f,⟨q,d,by simp only;rw[List.getElem?_append_left (List.getElem?_eq_some_iff.1 c).1];exact c,i⟩,h5⟩
 · intro d f
   rcases List.mem_append.1 f with c|c
   · exact W.res d c
   · rw[List.mem_singleton.1 c];exact hr
 · simp only[List.map_append,List.map_cons,List.map_nil]
   refine List.nodup_append.2 ⟨W.out,by simp,?_⟩
   intro a ha b hb hab
   obtain⟨d,c,i⟩:=List.mem_map.1 ha
   rw[List.mem_singleton.1 hb] at hab
   exact ho ⟨d,c,i.trans hab⟩
 · intro d f
   rcases List.mem_append.1 f with c|c
   · exact W.og d c
   · rw[List.mem_singleton.1 c];exact hg
theorem nF{n:Nat}{S:Ts}(W:Wf n S){o:Ky}(hg:o.2.2≤4294967295)(L:List UInt8)(h:Int×Int):Wf n (FE S o L h):=by
 unfold FE
 split
 · rename_i h0
   obtain⟨h1,h2,h3,h4,h5,_⟩:=dX h0
   have W2:=nD W (r:=⟨o,1,0,0,0,L⟩) h5 h1 h3 hg
   exact nB W2 (q:=S.R.length) (r:=⟨o,1,0,0,0,L⟩) (by simp) rfl rfl rfl h2 h4
 · exact W
theorem dY{n:Nat}{S:Ts}(W:Wf n S){d:Ky}{e:Ety}(he:Aa S.E d.2.1=some e)(hd:e.d=d):Wf n (Ho S d):=by
 obtain⟨q,h1,h2,i⟩:=Hq W he
 have hq:d.2.1.toNat=q:=by omega
 have hql:q<S.A.length:=by rw[W.len];exact h2
 have hg:=dW W he
 rw[hd] at hg i
 have o:=W.ok _ (List.mem_of_getElem? i)
 simp only at o
 unfold Ho
 rw[hq]
 refine⟨by simp only;rw[Vg];exact W.len,W.bd,If W.ok i rfl,W.rl,R3 W.nd,?_,?_,W.res,W.out,W.og,?_⟩
 · intro c e2 a
   simp only at a
   by_cases hk:c=d.2.1
   · subst hk;rw[DA W.nd] at a;cases a
   · rw[E8 hk] at a
     obtain⟨⟨f,b,j⟩,h8⟩:=W.ent c e2 a
     refine⟨⟨f,b,?_⟩,h8⟩
     simp only
     rw[MY (by rintro rfl;exact hk (b.trans h1.symm))]
     exact j
 · intro f g2 a
   simp only at a ⊢
   by_cases hk:f=q
   · subst hk
     rw[R9 hql] at a
     split at a<;>simp at a
   · rw[MY hk] at a
     rw[E8 om]
     exact W.tak f g2 a
 · intro k c e1 e2 a b j
   simp only at a b
   by_cases l:k=d.2.1
   · subst l;rw[DA W.nd] at a;cases a
   · by_cases m:c=d.2.1
     · subst m;rw[DA W.nd] at b;cases b
     · rw[E8 l] at a
       rw[E8 m] at b
       exact W.hnd k c e1 e2 a b j
theorem nH{n:Nat}{S:Ts}(W:Wf n S)(d:Ky):Wf n (Dw S d):=by
 unfold Dw
 split
 · rename_i h0
   obtain⟨_,e,h1,h2⟩:=fndE_ok.1 h0
   exact dY W h1 h2
 · exact W
theorem mem_descs{E:Tm}{v:Int}{d:Ky}:d∈Ch E v↔ ∃e∈Ac E,e.num=v∧e.d=d:=by
 unfold Ch
 rw[List.mem_filterMap]
 constructor
 · rintro⟨e,b,a⟩
   split at a
   · rename_i c;exact⟨e,b,c,Option.some.inj a⟩
   · cases a
 · rintro⟨e,b,a,c⟩
   exact⟨e,b,by rw[if_pos a,c]⟩
theorem YH{α:Type}{l:List α}{i:Nat}{x:α}(h:l[i]? =some x):l.set i x=l:=by
 apply List.ext_getElem?
 intro j
 by_cases hj:i=j
 · subst hj
   rw[List.getElem?_set_self (List.getElem?_eq_some_iff.1 h).1,h]
 · rw[List.getElem?_set_ne hj]
theorem dZ{S:Ts}{v:Int}{r:Rs}(a:CS S v r=0):(1≤v∧v≤(S.R.length:Int))∧FZ r=0∧r.out=(AZ S v).out∧r.tag=(AZ S v).tag∧(r.st=1∨(Ch S.E v).length=0):=by
 unfold CS at a
 split at a
 · omega
 · rename_i h1
   split at a
   · omega
   · rename_i h2
     split at a
     · omega
     · rename_i h3
       split at a
       · omega
       · rename_i h4
         refine⟨?_,by omega,?_,?_,by omega⟩
         · unfold nE at h1
           split at h1
           · assumption
           · omega
         · exact Classical.byContradiction fun h=>h3 (.inl h)
         · exact Classical.byContradiction fun h=>h3 (.inr h)
theorem Gc{S:Ts}{v:Int}(h:1≤v∧v≤(S.R.length:Int)):S.R[(v-1).toNat]? =some (AZ S v):=by
 have hl:(v-1).toNat<S.R.length:=by omega
 unfold AZ
 rw[if_pos h.1,List.getElem?_eq_getElem hl]
 rfl
theorem T9{S:Ts}{v:Int}(h: ¬(1≤v∧v≤(S.R.length:Int))):AZ S v=xT:=by
 unfold AZ
 split
 · rw[List.getElem?_eq_none om];rfl
 · rfl
theorem nI{n:Nat}{S:Ts}(W:Wf n S)(v:Int)(r:Rs):Wf n (Cc S v r):=by
 unfold Cc
 split
 · rename_i h0
   obtain⟨h1,h2,f,h4,b⟩:=dZ h0
   have hg:=Gc h1
   have hl:=(List.getElem?_eq_some_iff.1 hg).1
   refine⟨W.len,W.bd,W.ok,by simp only[List.length_set];exact W.rl,W.nd,?_,W.tak,?_,?_,?_,W.hnd⟩
   · intro k e he
     obtain⟨e1,e2,⟨q,c,i,l,m,e6⟩,e7⟩:=W.ent k e he
     refine⟨e1,e2,?_,e7⟩
     by_cases hq:q=(v-1).toNat
     · refine⟨q,r,by simp only;rw[hq,List.getElem?_set_self hl],l,?_,?_⟩
       · subst hq
         rw[hg] at i
         obtain rfl:=Option.some.inj i
         rw[f];exact m
       · rcases b with b|b
         · exact b
         · exfalso
           have hm:e.d∈Ch S.E v:=mem_descs.2 ⟨e,SA W he,by omega,rfl⟩
           rw[List.length_eq_zero_iff.1 b] at hm
           cases hm
     · exact⟨q,c,by simp only;rw[List.getElem?_set_ne (Ne.symm hq)];exact i,l,m,e6⟩
   · intro c j
     rcases List.mem_or_eq_of_mem_set j with a|a
     · exact W.res c a
     · rw[a];exact h2
   · have:(S.R.set (v-1).toNat r).map (·.out)=S.R.map (·.out):=by
      rw[List.map_set]
      have h7:(S.R.map (·.out))[(v-1).toNat]? =some r.out:=by rw[List.getElem?_map,hg,f];rfl
      rw[YH h7]
     simp only
     rw[this]
     exact W.out
   · intro c j
     rcases List.mem_or_eq_of_mem_set j with a|a
     · exact W.og c a
     · rw[a,f];exact W.og _ (List.mem_of_getElem? hg)
 · exact W
theorem nJ{n:Nat}{g:Int}(hn:1≤n∧n≤256)(hg:1≤g∧g≤4294967295):Wf n ⟨List.replicate n (0,g),[],[]⟩:=by
 refine⟨List.length_replicate,hn,?_,by simp,List.nodup_nil,?_,?_,?_,List.nodup_nil,(fun r hr=>by cases hr),?_⟩
 · intro s hs
   have:=List.eq_of_mem_replicate hs
   subst this
   simp only
   omega
 · intro k e he;cases he
 · intro q g2 hq
   simp only at hq
   rw[List.getElem?_replicate] at hq
   split at hq
   · simp at hq
   · cases hq
 · intro r hr;cases hr
 · intro k1 k2 e1 e2 h1;cases h1
def TW(b n:Nat)(S:Ts):AB:=Wi (Wf n S) (BD b n S.A S.E S.R)
theorem UA{S:Ts}{o:Ky}{L:List UInt8}{h:Int×Int}{e:Int}(h0:Dv S o L h=e)(he:e≠0):FE S o L h=S∧FF S o L h=(0,0,0):=by
 unfold FE FF
 rw[if_neg om,if_neg om]
 exact⟨rfl,rfl⟩
theorem UB{E:Tm}{h:Int×Int}(hh: ¬Po E h): ∀e∈Ac E,e.h≠h:=fun e h1 h2=>hh ⟨e,h1,h2⟩
theorem KO{R:List Rs}{o:Ky}(hh: ¬Pp R o): ∀r∈R,r.out≠o:=fun e h1 h2=>hh ⟨e,h1,h2⟩
theorem eA{hx hy:Int}(h: ¬JU (hx,hy)):hx<0∨255<hx∨hy≤0:=by
 unfold JU at h
 simp only at h
 omega
theorem tS{p:Ky}{x y z:Int}(h:p=(x,y,z)):p.1=x∧p.2.1=y∧p.2.2=z:=by subst h;exact⟨rfl,rfl,rfl⟩
theorem tT{p:Ky}{x y z:Int}(h:p≠(x,y,z)): ¬(p.1=x∧p.2.1=y∧p.2.2=z):=fun a=>h (Prod.ext a.1 (Prod.ext a.2.1 a.2.2))
theorem YI{A:List AM}{j:Nat}{g:Int}(h:By A=some (j,g)):1≤(AJ 0 A 0).length:=by
 have:=(List.getElem?_eq_some_iff.1 h).1
 omega
theorem eB(b n:Nat)(S:Ts)(x y z hx hy:Int)(L:List UInt8)(i:0≤z)(d:z≤4294967295)(hm:L.length≤1099511627776):HQ 206 [pV b,.agg #[iV x,iV y,uV z],sV L,.agg #[iV hx,uV hy]] [TW b n S] (.tuple #[.agg #[iV ((FF S (x,y,z) L (hx,hy)).1),iV ((FF S (x,y,z) L (hx,hy)).2.1),uV ((FF S (x,y,z) L (hx,hy)).2.2)],iV (Dv S (x,y,z) L (hx,hy))]) [TW b n (FE S (x,y,z) L (hx,hy))]:=by
 refine I9 (fun W=> ?_) (fun W=>nF W d _ _)
 have bad: ∀e:Int,Dv S (x,y,z) L (hx,hy)=e→e≠0→HT prog 206 [pV b,.agg #[iV x,iV y,uV z],sV L,.agg #[iV hx,uV hy]] [BD b n S.A S.E S.R] (fun v K=>v=.tuple #[.agg #[Value.int .i64 0,Value.int .i64 0,Value.int .u32 0],Value.int .i64 e]∧K= [BD b n S.A S.E S.R])→HT prog 206 [pV b,.agg #[iV x,iV y,uV z],sV L,.agg #[iV hx,uV hy]] [BD b n S.A S.E S.R] (fun v K=>v=.tuple #[.agg #[iV ((FF S (x,y,z) L (hx,hy)).1),iV ((FF S (x,y,z) L (hx,hy)).2.1),uV ((FF S (x,y,z) L (hx,hy)).2.2)],iV (Dv S (x,y,z) L (hx,hy))]∧K= [BD b n (FE S (x,y,z) L (hx,hy)).A (FE S (x,y,z) L (hx,hy)).E (FE S (x,y,z) L (hx,hy)).R]):=fun e a f c=>by
  rw[(UA a f).1,(UA a f).2,a]
  exact c
 rcases SB (x,y,z) L with ⟨a,f⟩|⟨a,f⟩
 · exact bad 2 (by unfold Dv;rw[if_pos om,f]) om (Vd b n S.A S.E S.R x y z hx hy L i d hm a)
 · rcases Tu L with c|c
   · rw[c] at f
     by_cases k:JU (hx,hy)
     · have hob:0≤hx∧hx≤255∧1≤hy:=k
       by_cases l:Pp S.R (x,y,z)
       · exact bad 6 (by unfold Dv;rw[if_neg om,if_neg (not_not_intro k),if_pos (.inl l)]) om (R6 b n S.A S.E S.R x y z hx hy L i d hm a c hob l)
       · by_cases m:Po S.E (hx,hy)
         · exact bad 6 (by unfold Dv;rw[if_neg om,if_neg (not_not_intro k),if_pos (.inr m)]) om (R7 b n S.A S.E S.R x y z hx hy L i d hm a c hob (KO l) m)
         · have s: ¬(Pp S.R (x,y,z)∨Po S.E (hx,hy)):=fun h=>h.elim l m
           by_cases o:S.R.length=2000∨(AJ 0 S.A 0).length=0
           · exact bad 4 (by unfold Dv;rw[if_neg om,if_neg (not_not_intro k),if_neg s,if_pos (o.imp (fun h=>by omega) (fun h=>freeS_none.2 h))]) om (R8 b n S.A S.E S.R x y z hx hy L i d hm a c hob (KO l) (UB m) o)
           · have hl:=W.rl
             cases h8:By S.A with
             |none=>exact absurd (.inr (freeS_none.1 h8)) o
             |some p=>
              obtain⟨j,g⟩:=p
              have q:Dv S (x,y,z) L (hx,hy)=0:=by unfold Dv;rw[if_neg om,if_neg (not_not_intro k),if_neg s,if_neg (fun h=>h.elim (fun h=>o (.inl om)) (fun h=>by rw[h8] at h;cases h))]
              have hS:FE S (x,y,z) L (hx,hy)=⟨S.A.set j (1,g),Au S.E (j:Int) ⟨(x,(j:Int),g),(S.R.length:Int)+1,(hx,hy)⟩,S.R++ [⟨(x,y,z),1,0,0,0,L⟩]⟩:=by
               unfold FE YF
               rw[if_pos q]
               simp only[h8]
              have hD:FF S (x,y,z) L (hx,hy)=(x,(j:Int),g):=by
               unfold FF nA
               rw[if_pos q]
               simp only[h8]
              rw[hS,hD,q]
              exact YD b n S.A S.E S.R x y z hx hy L i d hm a c hob (KO l) (UB m) om j g h8 (YI h8)
     · exact bad 2 (by unfold Dv;rw[if_neg om,if_pos k]) om (Ve b n S.A S.E S.R x y z hx hy L i d hm a c (eA k))
   · rw[c] at f
     exact bad 16 (by unfold Dv;rw[if_pos om,f]) om (Vc b n S.A S.E S.R x y z hx hy L i d hm a om)
theorem Jj{S:Ts}{d:Ky}{e:Int}(h0:Ba S d=e)(he:e≠0):Dw S d=S∧EC S d=false:=by
 unfold Dw EC
 rw[if_neg om,decide_eq_false (fun h=>by omega)]
 exact⟨rfl,rfl⟩
theorem UC{S:Ts}{d:Ky}(a:Ba S d=0):Dw S d=Ho S d∧EC S d=decide ((Ch (Ho S d).E (CR S d).num).length=0):=by
 unfold Dw EC
 rw[if_pos a]
 exact⟨rfl,by rw[decide_eq_decide];exact⟨fun h=>h.2,fun h=>⟨a,h⟩⟩⟩
theorem YJ(b n:Nat)(S:Ts)(x y z:Int)(d:0≤z)(f:z≤4294967295):HQ 288 [pV b,.agg #[iV x,iV y,uV z]] [TW b n S] (.tuple #[iV ((CR S (x,y,z)).num),.bool (EC S (x,y,z)),iV (Ba S (x,y,z))]) [TW b n (Dw S (x,y,z))]:=by
 refine I9 (fun W=> ?_) (fun W=>nH W _)
 rcases MX S (x,y,z) with ⟨hg,a,c⟩|⟨hg,hn,a,c⟩|⟨hg,e,he,hd,a,c⟩
 · rw[(Jj a om).1,(Jj a om).2,a,c]
   exact R5 b n S.A S.E S.R x y z d f hg
 · rw[(Jj a om).1,(Jj a om).2,a,c]
   cases he:Aa S.E y with
   |none=>exact Pm b n S.A S.E S.R x y z d f hg he
   |some e=>exact Pn b n S.A S.E S.R x y z e d f hg he (tT (hn e he))
 · obtain⟨q,h3,_,i⟩:=Hq W he
   have h3':y=(q:Int):=h3
   have hq:y.toNat=q:=by omega
   obtain⟨_,_,⟨q2,r,h7,h8,_⟩,_⟩:=W.ent _ e he
   have hl:=(List.getElem?_eq_some_iff.1 h7).1
   rw[hd] at i
   rw[(UC a).1,(UC a).2,a,c]
   unfold Ho
   simp only[hq]
   exact Vb b n S.A S.E S.R x y z e d f hg he (tS hd) q (1,z) i ⟨h3',rfl,rfl⟩ ⟨by omega,by omega⟩
theorem YK(b n:Nat)(S:Ts)(x y z:Int)(d:0≤z)(f:z≤4294967295):HQ 282 [pV b,.agg #[iV x,iV y,uV z]] [TW b n S] (.tuple #[iV ((CR S (x,y,z)).num),iV (Ba S (x,y,z))]) [TW b n S]:=by
 refine I9 (fun W=> ?_) (fun W=>W)
 rcases MX S (x,y,z) with ⟨hg,a,c⟩|⟨hg,hn,a,c⟩|⟨hg,e,he,hd,a,c⟩
 · rw[a,c]
   exact YC b n S.A S.E S.R x y z d f hg
 · rw[a,c]
   cases he:Aa S.E y with
   |none=>exact VZ b n S.A S.E S.R x y z d f hg he
   |some e=>exact Va b n S.A S.E S.R x y z e d f hg he (tT (hn e he))
 · rw[a,c]
   exact dT b n S.A S.E S.R x y z e d f hg he (tS hd)
theorem tU(b n:Nat)(S:Ts)(vn:Int):HQ 298 [pV b,iV vn] [TW b n S] (.tuple #[.agg #[iV (((bV S vn).d).1),iV (((bV S vn).d).2.1),uV (((bV S vn).d).2.2)],.bool ((Aa S.E vn).isSome)]) [TW b n S]:=by
 refine I9 (fun W=> ?_) (fun W=>W)
 unfold bV
 cases he:Aa S.E vn with
 |none=>exact X6 b n S.A S.E S.R vn he
 |some e=>exact mX b n S.A S.E S.R vn e he
theorem SC(b n:Nat)(S:Ts)(vn:Int):HQ 210 [pV b,iV vn] [TW b n S] (.tuple #[.agg #[iV ((AZ S vn).out.1),iV ((AZ S vn).out.2.1),uV ((AZ S vn).out.2.2),iV ((AZ S vn).st),iV ((AZ S vn).why),iV ((AZ S vn).tr),iV ((AZ S vn).nx),sV ((AZ S vn).tag)],iV (nE S vn)]) [TW b n S]:=by
 refine I9 (fun W=> ?_) (fun W=>W)
 unfold nE
 by_cases h:1≤vn∧vn≤(S.R.length:Int)
 · rw[if_pos h]
   exact FY b n S.A S.E S.R vn (vn-1).toNat (AZ S vn) (Gc h) om
 · rw[if_neg h,T9 h]
   exact T5 b n S.A S.E S.R vn om
theorem YL(b n:Nat)(S:Ts):HQ 54 [pV b] [TW b n S] (iV (S.R.length:Int)) [TW b n S]:=by
 exact I9 (fun W=>dR b n S.A S.E S.R) (fun W=>W)
theorem eC(b n:Nat)(S:Ts):HQ 268 [pV b] [TW b n S] (iV (((AJ 0 S.A 0).length:Nat):Int)) [TW b n S]:=by
 exact I9 (fun W=>X5 b n S.A S.E S.R) (fun W=>W)
theorem nK(n:Nat)(gn:Int)(hn:1≤n∧n≤256)(hg:1≤gn∧gn≤4294967295):HT prog 31 [iV n,uV gn] [] (fun v K=> ∃b:Nat,v=.tuple #[pV b,Value.int .i64 0]∧K= [TW b n ⟨List.replicate n (0,gn),[],[]⟩]):=
 (dU n gn hn hg).post fun v K hP=>by
  obtain⟨b,h1,h2⟩:=hP
  exact⟨_,⟨b,h1,rfl⟩,fun g w F hs=>by rw[h2] at hs;exact MK (nJ hn hg) hs⟩
theorem Ei{n:Nat}{l:Fr}{o:Oper}{x y:Operand}(a b c d c1 c2:Int)(ho:o.op= .binOp .neq 48 x y 48)(hx:fe n l x= .agg #[iV a,iV b,uV c])(hy:fe n l y= .agg #[iV d,iV c1,uV c2])(h:a=d∧b=c1∧c=c2)(w:World):(execOp (fe n l) o).run prog w= .ok (.value (bF)) w:=by
 obtain⟨rfl,rfl,rfl⟩:=h
 simp[execOp,ho,hx,hy,go_sem]
theorem GC{n:Nat}{l:Fr}{o:Oper}{x y:Operand}(b c d e c1 c2:Int)(ho:o.op= .binOp .neq 48 x y 48)(hx:fe n l x= .agg #[iV b,iV c,uV d])(hy:fe n l y= .agg #[iV e,iV c1,uV c2])(h: ¬(b=e∧c=c1∧d=c2))(w:World):(execOp (fe n l) o).run prog w= .ok (.value (bT)) w:=by
 by_cases a:b=e
 · skip
   by_cases f:c=c1
   · skip
     by_cases i:d=c2
     · exact absurd ⟨a,f,i⟩ h
     · simp[execOp,ho,hx,hy,go_sem,a,f,i]
   · simp[execOp,ho,hx,hy,go_sem,a,f]
 · simp[execOp,ho,hx,hy,go_sem,a]
theorem YM(b n:Nat)(A:List AM)(E:Tm)(RL:List Rs)(vn x y z st why tr nx:Int)(L:List UInt8)(p:0≤z)(t:z≤4294967295)(hm:L.length≤1099511627776)(q:Nat)(r:Rs)(hr:RL[q]? =some r)(hv:vn=(q:Int)+1)(he:DH x y z st why tr nx L=0)(ho: ¬(x=r.out.1∧y=r.out.2.1∧z=r.out.2.2)):HQ 316 [pV b,iV vn,.agg #[iV x,iV y,uV z,iV st,iV why,iV tr,iV nx,sV L]] [BD b n A E RL] (iV 2) [BD b n A E RL]:=by
 have hq_:=(List.getElem?_eq_some_iff.1 hr).1
 refine AC func316 ntmps316 fun g w0 R h0=>g0<|nP 226 [iV x,iV y,uV z,iV st,iV why,iV tr,iV nx,sV L] h0 (fun _ _ f=> ?_)
 have i:=f.a.t3
 refine g0<|AF call210 (FY b n A E RL vn q r hr om) i fun _ j=>g0<|nP 226 [iV 0,iV 0,uV 0,iV 0,iV 0,iV 0,iV 0,sV []] j (fun _ _ k=> ?_)
 refine sA [iV r.out.1,iV r.out.2.1,uV r.out.2.2,iV r.st,iV r.why,iV r.tr,iV r.nx,sV r.tag] k fun _ e=>go [rd 4 0 2 0 8 e]<|AP call352 (DW x y z st why tr nx L om om om) e fun _ l=> ?_
 have m:=l.a.t4
 refine go [.v 5 1 (Db (DH x y z st why tr nx L) 0)]<|cP call307 (EI b n A E RL vn om) m ?_
 rintro v K _ (⟨u,B,rfl,rfl⟩) o
 have c:=CW o
 refine go [rd 8 1 3 0 3 c,rd 8 3 2 0 3 c,.s 8 4] ?_
 by_cases C:x=r.out.1
 ·
  by_cases D:y=r.out.2.1
  ·
   refine AS (bT) (GC (x:=Ot 33) (y:=Ot 35) x y z r.out.1 r.out.2.1 r.out.2.2 kr kr kr om _)<|g0 ?_
   exact AD _ [] c.d.a.t2
  refine AS (bT) (GC (x:=Ot 33) (y:=Ot 35) x y z r.out.1 r.out.2.1 r.out.2.2 kr kr kr om _)<|g0 ?_
  exact AD _ [] c.d.a.t2
 refine AS (bT) (GC (x:=Ot 33) (y:=Ot 35) x y z r.out.1 r.out.2.1 r.out.2.2 kr kr kr om _)<|g0 ?_
 exact AD _ [] c.d.a.t2
theorem YN(b n:Nat)(A:List AM)(E:Tm)(RL:List Rs)(vn x y z st why tr nx:Int)(L:List UInt8)(p:0≤z)(u:z≤4294967295)(hm:L.length≤1099511627776)(q:Nat)(r:Rs)(hr:RL[q]? =some r)(hv:vn=(q:Int)+1)(he:DH x y z st why tr nx L=0)(ho:x=r.out.1∧y=r.out.2.1∧z=r.out.2.2)(ht: ¬L=r.tag):HQ 316 [pV b,iV vn,.agg #[iV x,iV y,uV z,iV st,iV why,iV tr,iV nx,sV L]] [BD b n A E RL] (iV 2) [BD b n A E RL]:=by
 have hq_:=(List.getElem?_eq_some_iff.1 hr).1
 refine AC func316 ntmps316 fun g w0 R h0=>g0<|nP 226 [iV x,iV y,uV z,iV st,iV why,iV tr,iV nx,sV L] h0 (fun _ _ f=> ?_)
 have i:=f.a.t3
 refine g0<|AF call210 (FY b n A E RL vn q r hr om) i fun _ j=>g0<|nP 226 [iV 0,iV 0,uV 0,iV 0,iV 0,iV 0,iV 0,sV []] j (fun _ _ k=> ?_)
 refine sA [iV r.out.1,iV r.out.2.1,uV r.out.2.2,iV r.st,iV r.why,iV r.tr,iV r.nx,sV r.tag] k fun _ e=>go [rd 4 0 2 0 8 e]<|AP call352 (DW x y z st why tr nx L om om om) e fun _ l=> ?_
 have m:=l.a.t4
 refine go [.v 5 1 (Db (DH x y z st why tr nx L) 0)]<|cP call307 (EI b n A E RL vn om) m ?_
 rintro v K _ (⟨B,C,rfl,rfl⟩) o
 have c:=CW o
 refine go [rd 8 1 3 0 3 c,rd 8 3 2 0 3 c,.s 8 4]<|AS (.bool false) (Ei (x:=Ot 33) (y:=Ot 35) x y z r.out.1 r.out.2.1 r.out.2.2 kr kr kr ⟨om,om,om⟩ _)<|go [rd 8 7 3 7 1 c,rd 8 9 2 7 1 c,.s 8 10]<|AS (.bool true) (GW (t:=9) (x:=Ot 39) (y:=Ot 41) (a:=L) (b:=r.tag) kr kr kr true ((decide_eq_false ht).trans rfl) _)<|g0 ?_
 exact AD _ [] c.d.a.t2
theorem SD(b n:Nat)(A:List AM)(E:Tm)(RL:List Rs)(vn x y z st why tr nx:Int)(L:List UInt8)(p:0≤z)(u:z≤4294967295)(hm:L.length≤1099511627776)(q:Nat)(r:Rs)(hr:RL[q]? =some r)(hv:vn=(q:Int)+1)(he:DH x y z st why tr nx L=0)(ho:x=r.out.1∧y=r.out.2.1∧z=r.out.2.2)(ht:L=r.tag)(hs:st≠1)(hd:0<(Ch E vn).length):HQ 316 [pV b,iV vn,.agg #[iV x,iV y,uV z,iV st,iV why,iV tr,iV nx,sV L]] [BD b n A E RL] (iV 8) [BD b n A E RL]:=by
 have hq_:=(List.getElem?_eq_some_iff.1 hr).1
 refine AC func316 ntmps316 fun g w0 R h0=>g0<|nP 226 [iV x,iV y,uV z,iV st,iV why,iV tr,iV nx,sV L] h0 (fun _ _ f=> ?_)
 have i:=f.a.t3
 refine g0<|AF call210 (FY b n A E RL vn q r hr om) i fun _ j=>g0<|nP 226 [iV 0,iV 0,uV 0,iV 0,iV 0,iV 0,iV 0,sV []] j (fun _ _ k=> ?_)
 refine sA [iV r.out.1,iV r.out.2.1,uV r.out.2.2,iV r.st,iV r.why,iV r.tr,iV r.nx,sV r.tag] k fun _ e=>go [rd 4 0 2 0 8 e]<|AP call352 (DW x y z st why tr nx L om om om) e fun _ l=> ?_
 have m:=l.a.t4
 refine go [.v 5 1 (Db (DH x y z st why tr nx L) 0)]<|cP call307 (EI b n A E RL vn om) m ?_
 rintro v K _ (⟨B,C,rfl,rfl⟩) o
 have c:=CW o
 refine go [rd 8 1 3 0 3 c,rd 8 3 2 0 3 c,.s 8 4]<|AS (.bool false) (Ei (x:=Ot 33) (y:=Ot 35) x y z r.out.1 r.out.2.1 r.out.2.2 kr kr kr ⟨om,om,om⟩ _)<|go [rd 8 7 3 7 1 c,rd 8 9 2 7 1 c,.s 8 10]<|AS (.bool false) (GW (t:=9) (x:=Ot 39) (y:=Ot 41) (a:=L) (b:=r.tag) kr kr kr false (decide_eq_true ht) _)<|go [rd 10 1 3 3 1 c,.v 10 2 (Tc st 1),.v 10 6 (oT ((((Ch E vn).length:Nat):Int)>0))] ?_
 exact AD _ [] c.d.a.t2
theorem YO(b n:Nat)(A:List AM)(E:Tm)(RL:List Rs)(vn x y z st why tr nx:Int)(L:List UInt8)(O:0≤z)(P:z≤4294967295)(hm:L.length≤1099511627776)(q:Nat)(r:Rs)(hr:RL[q]? =some r)(hv:vn=(q:Int)+1)(he:DH x y z st why tr nx L=0)(ho:x=r.out.1∧y=r.out.2.1∧z=r.out.2.2)(ht:L=r.tag)(hs:st=1):HQ 316 [pV b,iV vn,.agg #[iV x,iV y,uV z,iV st,iV why,iV tr,iV nx,sV L]] [BD b n A E RL] (iV 0) [BD b n A E (RL.set q ⟨(x,y,z),st,why,tr,nx,L⟩)]:=by
 have hq_:=(List.getElem?_eq_some_iff.1 hr).1
 refine AC func316 ntmps316 fun g w0 R h0=>g0<|nP 226 [iV x,iV y,uV z,iV st,iV why,iV tr,iV nx,sV L] h0 (fun Q _ p=> ?_)
 have u:=p.a.t3
 refine g0<|AF call210 (FY b n A E RL vn q r hr om) u fun _ B=>g0<|nP 226 [iV 0,iV 0,uV 0,iV 0,iV 0,iV 0,iV 0,sV []] B (fun S _ C=> ?_)
 refine sA [iV r.out.1,iV r.out.2.1,uV r.out.2.2,iV r.st,iV r.why,iV r.tr,iV r.nx,sV r.tag] C fun _ l=>go [rd 4 0 2 0 8 l]<|AP call352 (DW x y z st why tr nx L om om om) l fun _ D=> ?_
 have F:=D.a.t4
 refine go [.v 5 1 (Db (DH x y z st why tr nx L) 0)]<|cP call307 (EI b n A E RL vn om) F ?_
 rintro v K _ (⟨T,U,rfl,rfl⟩) G
 have e:=CW G
 refine go [rd 8 1 3 0 3 e,rd 8 3 2 0 3 e,.s 8 4]<|AS (.bool false) (Ei (x:=Ot 33) (y:=Ot 35) x y z r.out.1 r.out.2.1 r.out.2.2 kr kr kr ⟨om,om,om⟩ _)<|go [rd 8 7 3 7 1 e,rd 8 9 2 7 1 e,.s 8 10]<|AS (.bool false) (GW (t:=9) (x:=Ot 39) (y:=Ot 41) (a:=L) (b:=r.tag) kr kr kr false (decide_eq_true ht) _)<|go [rd 10 1 3 3 1 e,.v 10 2 (Db st 1)]<|dw (AE [0,1,2,3,4,5,6,7] (Tr.an 8 Tr.nil)) e fun _ H=> ?_
 obtain⟨V,W,I,J,E35,hM36,f⟩:=Ay H
 have hRl_:=hM36.2
 obtain⟨k,m⟩:=Av (j:=3) f rfl om
 refine go [rd 12 3 0 2 1 f,.v 12 5 (CD (vn-1)),rd 12 6 6 0 8 f,.s 12 7]<|lw (.pointer (some ⟨k,q*8,none⟩)) (fun _=>Ft (Ot 56) (Ot 58) I k 0 (vn-1) RL.length J underlying175 8 q m (q*8)) ?_
 have o:=f.c.t8
 refine AH ?_
 have X:=Ca Ah dc o
 refine G6 (b:=k) [(q*8,iV x),(q*8+1,iV y),(q*8+2,uV z),(q*8+3,iV st),(q*8+4,iV why),(q*8+5,iV tr),(q*8+6,iV nx),(q*8+7,sV L)] (cs':=(fl DG (RL.set q ⟨(x,y,z),st,why,tr,nx,L⟩))) kr kr m (G5 ⟨⟨by omega,rfl⟩,⟨by omega,rfl⟩,⟨by omega,rfl⟩,⟨by omega,rfl⟩,⟨by omega,rfl⟩,⟨by omega,rfl⟩,⟨by omega,rfl⟩,⟨by omega,rfl⟩,trivial⟩) om (O1 Ah (i:=q) (x:=r) (y:=⟨(x,y,z),st,why,tr,nx,L⟩) hr [(0,iV x),(1,iV y),(2,uV z),(3,iV st),(4,iV why),(5,iV tr),(6,iV nx),(7,sV L)] rfl rfl rfl) o ?_
 intro Y M
 refine⟨kd [],IK ?_⟩
 refine g0 ?_
 have N:sat g _ (BD b n A E (RL.set q ⟨(x,y,z),st,why,tr,nx,L⟩)::_):=AV hM36.1 (by simp only[List.length_append,List.length_set,List.length_cons,List.length_nil];omega) (by simp only[List.length_append,List.length_set,List.length_cons,List.length_nil]) M.c.c.c.t8
 exact AD _ [] N.d.a.t2
theorem YQ(b n:Nat)(A:List AM)(E:Tm)(RL:List Rs)(vn x y z st why tr nx:Int)(L:List UInt8)(Y:0≤z)(Z:z≤4294967295)(hm:L.length≤1099511627776)(q:Nat)(r:Rs)(hr:RL[q]? =some r)(hv:vn=(q:Int)+1)(he:DH x y z st why tr nx L=0)(ho:x=r.out.1∧y=r.out.2.1∧z=r.out.2.2)(ht:L=r.tag)(hd:(Ch E vn).length=0):HQ 316 [pV b,iV vn,.agg #[iV x,iV y,uV z,iV st,iV why,iV tr,iV nx,sV L]] [BD b n A E RL] (iV 0) [BD b n A E (RL.set q ⟨(x,y,z),st,why,tr,nx,L⟩)]:=by
 have hq_:=(List.getElem?_eq_some_iff.1 hr).1
 refine AC func316 ntmps316 fun g w0 R h0=>g0<|nP 226 [iV x,iV y,uV z,iV st,iV why,iV tr,iV nx,sV L] h0 (fun aa _ D=> ?_)
 have F:=D.a.t3
 refine g0<|AF call210 (FY b n A E RL vn q r hr om) F fun _ G=>g0<|nP 226 [iV 0,iV 0,uV 0,iV 0,iV 0,iV 0,iV 0,sV []] G (fun ab _ H=> ?_)
 refine sA [iV r.out.1,iV r.out.2.1,uV r.out.2.2,iV r.st,iV r.why,iV r.tr,iV r.nx,sV r.tag] H fun _ o=>go [rd 4 0 2 0 8 o]<|AP call352 (DW x y z st why tr nx L om om om) o fun _ I=> ?_
 have J:=I.a.t4
 refine go [.v 5 1 (Db (DH x y z st why tr nx L) 0)]<|cP call307 (EI b n A E RL vn om) J ?_
 rintro v K _ (⟨ac,ad,rfl,rfl⟩) M
 have e:=CW M
 refine go [rd 8 1 3 0 3 e,rd 8 3 2 0 3 e,.s 8 4]<|AS (.bool false) (Ei (x:=Ot 33) (y:=Ot 35) x y z r.out.1 r.out.2.1 r.out.2.2 kr kr kr ⟨om,om,om⟩ _)<|go [rd 8 7 3 7 1 e,rd 8 9 2 7 1 e,.s 8 10]<|AS (.bool false) (GW (t:=9) (x:=Ot 39) (y:=Ot 41) (a:=L) (b:=r.tag) kr kr kr false (decide_eq_true ht) _)<|go [rd 10 1 3 3 1 e,.s 10 2] ?_
 by_cases ae:st=1
 ·
  refine go [.v 10 2 (Db st 1)]<|dw (AE [0,1,2,3,4,5,6,7] (Tr.an 8 Tr.nil)) e fun _ N=> ?_
  obtain⟨af,ag,O,P,E36,hM37,f⟩:=Ay N
  have hRl_:=hM37.2
  obtain⟨l,p⟩:=Av (j:=3) f rfl om
  refine go [rd 12 3 0 2 1 f,.v 12 5 (CD (vn-1)),rd 12 6 6 0 8 f,.s 12 7]<|lw (.pointer (some ⟨l,q*8,none⟩)) (fun _=>Ft (Ot 56) (Ot 58) O l 0 (vn-1) RL.length P underlying175 8 q p (q*8)) ?_
  have u:=f.c.t8
  refine AH ?_
  have ah:=Ca Ah dc u
  refine G6 (b:=l) [(q*8,iV x),(q*8+1,iV y),(q*8+2,uV z),(q*8+3,iV st),(q*8+4,iV why),(q*8+5,iV tr),(q*8+6,iV nx),(q*8+7,sV L)] (cs':=(fl DG (RL.set q ⟨(x,y,z),st,why,tr,nx,L⟩))) kr kr p (G5 ⟨⟨by omega,rfl⟩,⟨by omega,rfl⟩,⟨by omega,rfl⟩,⟨by omega,rfl⟩,⟨by omega,rfl⟩,⟨by omega,rfl⟩,⟨by omega,rfl⟩,⟨by omega,rfl⟩,trivial⟩) om (O1 Ah (i:=q) (x:=r) (y:=⟨(x,y,z),st,why,tr,nx,L⟩) hr [(0,iV x),(1,iV y),(2,uV z),(3,iV st),(4,iV why),(5,iV tr),(6,iV nx),(7,sV L)] rfl rfl rfl) u ?_
  intro ai Q
  refine⟨kd [],IK ?_⟩
  refine g0 ?_
  have S:sat g _ (BD b n A E (RL.set q ⟨(x,y,z),st,why,tr,nx,L⟩)::_):=AV hM37.1 (by simp only[List.length_append,List.length_set,List.length_cons,List.length_nil];omega) (by simp only[List.length_append,List.length_set,List.length_cons,List.length_nil]) Q.c.c.c.t8
  exact AD _ [] S.d.a.t2
 refine go [.v 10 2 (Tc st 1),.v 10 6 (oF ((((Ch E vn).length:Nat):Int)>0))]<|dw (AE [0,1,2,3,4,5,6,7] (Tr.an 8 Tr.nil)) e fun _ T=> ?_
 obtain⟨aj,ak,U,V,E54,hM55,k⟩:=Ay T
 have hRl_:=hM55.2
 obtain⟨m,B⟩:=Av (j:=3) k rfl om
 refine go [rd 12 3 0 2 1 k,.v 12 5 (CD (vn-1)),rd 12 6 6 0 8 k,.s 12 7]<|lw (.pointer (some ⟨m,q*8,none⟩)) (fun _=>Ft (Ot 56) (Ot 58) U m 0 (vn-1) RL.length V underlying175 8 q B (q*8)) ?_
 have C:=k.c.t8
 refine AH ?_
 have al:=Ca Ah dc C
 refine G6 (b:=m) [(q*8,iV x),(q*8+1,iV y),(q*8+2,uV z),(q*8+3,iV st),(q*8+4,iV why),(q*8+5,iV tr),(q*8+6,iV nx),(q*8+7,sV L)] (cs':=(fl DG (RL.set q ⟨(x,y,z),st,why,tr,nx,L⟩))) kr kr B (G5 ⟨⟨by omega,rfl⟩,⟨by omega,rfl⟩,⟨by omega,rfl⟩,⟨by omega,rfl⟩,⟨by omega,rfl⟩,⟨by omega,rfl⟩,⟨by omega,rfl⟩,⟨by omega,rfl⟩,trivial⟩) om (O1 Ah (i:=q) (x:=r) (y:=⟨(x,y,z),st,why,tr,nx,L⟩) hr [(0,iV x),(1,iV y),(2,uV z),(3,iV st),(4,iV why),(5,iV tr),(6,iV nx),(7,sV L)] rfl rfl rfl) C ?_
 intro am W
 refine⟨kd [],IK ?_⟩
 refine g0 ?_
 have X:sat g _ (BD b n A E (RL.set q ⟨(x,y,z),st,why,tr,nx,L⟩)::_):=AV hM55.1 (by simp only[List.length_append,List.length_set,List.length_cons,List.length_nil];omega) (by simp only[List.length_append,List.length_set,List.length_cons,List.length_nil]) W.c.c.c.t8
 exact AD _ [] X.d.a.t2
structure Part (E0 S Ec:Tm):Prop where
 k0:KN E0
 kc:KN Ec
 ks:KN S
 mem: ∀q∈S,Aa E0 q.1=some q.2
 has: ∀k:Int,Aa Ec k=if k∈S.map (·.1) then none else Aa E0 k
theorem YS{E:Tm}(h:KN E){q:Int×Ety}(hq:q∈E):Aa E q.1=some q.2:=by
 induction E with
 |nil=>cases hq
 |cons p E ih=>
  obtain⟨a,v⟩:=p
  have h':(a::E.map (·.1)).Nodup:=h
  obtain⟨h1,h2⟩:=List.nodup_cons.1 h'
  simp only[Aa]
  rcases List.mem_cons.1 hq with rfl |b
  · rw[if_pos rfl]
  · have hne:a≠q.1:=fun he=>h1 (he▸List.mem_map_of_mem b)
    rw[if_neg (Ne.symm hne)]
    exact ih h2 b
theorem SE{E0 E:Tm}(h:RX E0 E):Part E0 E0 []:=by
 refine⟨h.1,List.nodup_nil,h.1,fun q hq=>YS h.1 hq,fun k=> ?_⟩
 split
 · rfl
 · rename_i hk
   rw[gget_none.2 hk]
   rfl
theorem eD{E0 S Ec:Tm}(h:Part E0 S Ec){i:Nat}{q:Int×Ety}(hq:S[i]? =some q):Part E0 (S.eraseIdx i) (Au Ec q.1 q.2):=by
 have hkn:(S.map (·.1)).Nodup:=h.ks
 have hi:=(List.getElem?_eq_some_iff.1 hq).1
 have hki:(S.map (·.1))[i]? =some q.1:=by rw[List.getElem?_map,hq];rfl
 have hkil:i<(S.map (·.1)).length:=by rw[List.length_map];exact hi
 have hmk:(S.eraseIdx i).map (·.1)=(S.map (·.1)).eraseIdx i:=GY _ _ _
 refine⟨h.k0,Nc h.kc,?_,fun p hp=>h.mem p (List.eraseIdx_subset hp),fun k=> ?_⟩
 · unfold KN
   rw[hmk]
   exact List.Nodup.sublist (List.eraseIdx_sublist _ _) hkn
 · rw[E7,hmk]
   have hik:(S.map (·.1))[i]=q.1:=(List.getElem?_eq_some_iff.1 hki).2
   split
   · rename_i hk
     subst hk
     have hno:q.1∉(S.map (·.1)).eraseIdx i:=by
      rw[←hik]
      intro a
      obtain⟨j,hj,hji,hjk⟩:=List.mem_eraseIdx_iff_getElem.1 a
      exact hji ((List.getElem_inj hkn).1 hjk)
     rw[if_neg hno]
     exact(h.mem q (List.mem_of_getElem? hq)).symm
   · rename_i hk
     rw[h.has]
     have hiff:k∈(S.map (·.1)).eraseIdx i↔k∈S.map (·.1):=by
      constructor
      · exact fun a=>List.eraseIdx_subset a
      · intro a
        obtain⟨j,hj,hjk⟩:=List.getElem_of_mem a
        exact List.mem_eraseIdx_iff_getElem.2 ⟨j,hj,fun he=>hk (by subst he;rw[←hjk,hik]),hjk⟩
     by_cases b:k∈S.map (·.1)
     · rw[if_pos b,if_pos (hiff.2 b)]
     · rw[if_neg b,if_neg fun h4=>b (hiff.1 h4)]
theorem YT{E0 E Ec:Tm}(h:Part E0 [] Ec)(hM:RX E0 E):RX Ec E:=⟨h.kc,hM.2.1,fun k=>by
 rw[h.has,if_neg (by simp),hM.2.2]⟩
theorem Pq{R:List Rs}{st:Int}{k:Nat}{r:Rs}(hr:R[k]? =some r)(h:r.st=st):Ci R st k++ [(k:Int)+1]=Ci R st (k+1):=by
 unfold Ci
 rw[List.range_succ,List.filter_append,List.map_append]
 simp[hr,h]
theorem Pr{R:List Rs}{st:Int}{k:Nat}{r:Rs}(hr:R[k]? =some r)(h:r.st≠st):Ci R st k=Ci R st (k+1):=by
 unfold Ci
 rw[List.range_succ,List.filter_append,List.map_append]
 simp[hr,h]
theorem eE{S:Ts}{v:Int}{r:Rs}{e:Int}(h:CS S v r=e)(he:e≠0):Cc S v r=S:=by
 unfold Cc
 rw[if_neg om]
theorem SF{α:Type}{S:List α}{i:Nat}{q:α}(h:S[i]? =some q):(S.eraseIdx i).length+1=S.length:=by
 have:=(List.getElem?_eq_some_iff.1 h).1
 rw[List.length_eraseIdx,if_pos this]
 omega
theorem YU(b n:Nat)(A:List AM)(E:Tm)(RL:List Rs)(vn:Int):HT prog 55 [pV b,iV vn] [BD b n A E RL] (fun v K=> ∃(p:Option Addr) (c:Nat),v= .slice p ((AT RL vn).length) c∧K= [BD b n A E RL,Sl 3 1 p ((AT RL vn).length) c (fl eI (AT RL vn))]):=by
 refine AC func55 ntmps55 fun g w0 R h0=>g0<|AF call119 (BF b n A E RL) h0 fun ag T=> ?_
 obtain⟨H,I,z,B,E16,hM17,J⟩:=Ay T
 have hRl_:=hM17.2
 refine go [rd 4 3 0 2 1 J] ?_
 have L:=J.c.t5
 have U:=Ca Ah dc L
 have V:sat g _ (Sl 3 1 none 0 0 (fl eI [])::_):=CP 3 1 L
 refine Jc (fun mz_ a w=> ∃k:Nat,∃m:Option Addr,∃l:Nat,∃q:Nat,∃lr:Fr,mz_=RL.length-k∧(k≤RL.length)∧(l≤k)∧a=mk 32 (([(1,iV vn),(5,.slice m l q),(14,.slice z RL.length B),(15,iV (RL.length:Int)),(16,iV k)]:Fr)++lr)∧sat g w [Sl 3 1 m l q (fl eI (Ci RL vn k)),Sl 226 8 z RL.length B (fl DG RL),Cl b [pV H,.map (some I),.slice z RL.length B] 177,Tb H n A,Gp kI vE I E16,R]) (RL.length-0) ⟨0,none,0,0,_,rfl,(Nat.zero_le _),(Nat.le_refl _),(Ck [.k 1 (iV vn),.k 5 (.slice none 0 0),.k 14 (.slice z RL.length B),.k 15 (iV (RL.length:Int)),.o 16 (oJ .i64 0 (0:Int))]),V⟩ ?_
 rintro ah ai aj ⟨k,m,l,q,ak,rfl,hk,al,rfl,t⟩
 refine ga<|go [.s 5 0] ?_
 by_cases M:(k:Int)<(RL.length:Int)
 ·
  obtain⟨F,y⟩:=Av (j:=1) t rfl om
  refine go [.v 5 0 (oT _ M),.s 6 1]<|AS (.pointer (some ⟨F,k*8,none⟩)) (Ft (Ot 14) (Ot 16) z F 0 (k:Int) RL.length B underlying175 8 k y (k*8)) ?_
  obtain⟨i,u⟩: ∃x,RL[k]? =some x:=⟨_,List.getElem?_eq_getElem (by rw[U];omega)⟩
  refine go [.r 6 2 F (k*8) [iV i.out.1,iV i.out.2.1,uV i.out.2.2,iV i.st,iV i.why,iV i.tr,iV i.nx,sV i.tag] ⟨CM 1 t rfl y Ah 0 (iV i.out.1) u (k*8),CM 1 t rfl y Ah 1 (iV i.out.2.1) u (k*8+1),CM 1 t rfl y Ah 2 (uV i.out.2.2) u (k*8+2),CM 1 t rfl y Ah 3 (iV i.st) u (k*8+3),CM 1 t rfl y Ah 4 (iV i.why) u (k*8+4),CM 1 t rfl y Ah 5 (iV i.tr) u (k*8+5),CM 1 t rfl y Ah 6 (iV i.nx) u (k*8+6),CM 1 t rfl y Ah 7 (sV i.tag) u (k*8+7),trivial⟩]<|nP 226 [iV 0,iV 0,uV 0,iV 0,iV 0,iV 0,iV 0,sV []] t (fun am _ W=> ?_)
  refine g0<|sA [iV i.out.1,iV i.out.2.1,uV i.out.2.2,iV i.st,iV i.why,iV i.tr,iV i.nx,sV i.tag] W fun an G=>go [rd 7 1 0 3 1 G,.s 7 3] ?_
  by_cases N:i.st=vn
  ·
   refine go [.v 7 3 (G9 _ _ N),.v 8 2 (CD ((k:Int)+1))]<|nG (fun q_=> .slice (some ⟨q_,0,none⟩) 1 1) 3 [iV ((k:Int)+1)] G (fun X _ Y=>⟨kd [],?_⟩)
   have O:=Y.b.t8
   refine AH ?_
   refine aA 29 1 (Ot 25) (Ot 28) (iV 0) m l q 1 1 (⟨X,0,none⟩) 8 underlying134 O (fl eI [(k:Int)+1]) rfl (Br O rfl) (Aw Co _) (l+1) ?_
   intro C D ao Z
   have P:sat g _ (Sl 3 1 C (l+1) D (fl eI ((Ci RL vn k)++ [(k:Int)+1]))::_):=sJ Z
   obtain⟨ap,aq⟩:=BH P
   refine B1<|go [.v 9 0 (CD ((k:Int)+1))] ?_
   refine ET ?_
   have aa:sat g _ (Sl 3 1 C (l+1) D (fl eI (Ci RL vn (k+1)))::_):=AI P (fun _ hh_=>by rw[show (((Ci RL vn k)++ [(k:Int)+1]):List Int)=(Ci RL vn (k+1)) from Pq u om] at hh_;exact hh_)
   have ab:=aa.x.x.x.x.x.e.t8.t6
   change ∃n',n'<_∧_
   refine⟨(RL.length-(k+1)),by omega,(k+1),C,l+1,D,_,rfl,om,om,(Ck [.k 1 (iV vn),.k 5 (.slice C (l+1) D),.k 14 (.slice z RL.length B),.k 15 (iV (RL.length:Int)),.o 16 (oJ .i64 ((k:Int)+1) (((k+1):Nat):Int))]),ab⟩
  refine go [.v 7 3 (DR _ _ N),.v 9 0 (CD ((k:Int)+1))] ?_
  refine ET ?_
  have ac:sat g _ (Sl 3 1 m l q (fl eI (Ci RL vn (k+1)))::_):=AI G.a.t7 (fun _ hh_=>by rw[show ((Ci RL vn k):List Int)=(Ci RL vn (k+1)) from Pr u om] at hh_;exact hh_)
  have ad:=ac.f.f.f.f.f.e.t7.t6
  change ∃n',n'<_∧_
  refine⟨(RL.length-(k+1)),by omega,(k+1),m,l,q,_,rfl,om,om,(Ck [.k 1 (iV vn),.k 5 (.slice m l q),.k 14 (.slice z RL.length B),.k 15 (iV (RL.length:Int)),.o 16 (oJ .i64 ((k:Int)+1) (((k+1):Nat):Int))]),ad⟩
 refine go [.v 5 0 (oF _ M)]<|up<|g0 ?_
 have Q:sat g _ (Sl 3 1 m l q (fl eI (AT RL vn))::_):=AI t (fun _ hh_=>by rw[show ((Ci RL vn k):List Int)=(AT RL vn) from (by rw[show k=RL.length from by omega];rfl)] at hh_;exact hh_)
 have S:=Ca Co dc Q
 have ae:sat g _ (Sl 3 1 m ((AT RL vn).length) q (fl eI (AT RL vn))::_):=AI Q (fun _ hh_=>by rw[S];exact hh_)
 have af:sat g _ (BD b n A E RL::_):=AV hM17.1 om (by first|rfl |omega) ae.a.d.d.d.t6
 exact en (.slice m l q) [] ⟨_,_,rfl,⟨m,q,by rw[S],rfl⟩,af⟩
theorem SG(c:Nat)(X:AB):HT prog 121 [.slice none 0 c] [X] (fun v K=> ∃(p:Option Addr) (c:Nat),v= .slice p 0 c∧K= [Sl 226 8 p 0 c (fl DG []),X]):=by
 refine AC func121 ntmps121 fun g w0 R h0=>g0 ?_
 have a:sat g _ (Sl 226 8 none 0 0 (fl DG [])::_):=CP 226 8 h0
 exact en _ [] ⟨_,_,rfl,⟨none,0,rfl,rfl⟩,a⟩
theorem Pu(a:Addr)(p:Option Addr)(hp:p=some a)(n c:Nat)(L:List Rs)(X:AB)(hX:Gv X p n (fl DG L))(hL:L.length=n)(hn:n≤1000000):HT prog 121 [.slice p n c] [X] (fun v K=> ∃(p:Option Addr) (c:Nat),v= .slice p n c∧K= [Sl 226 8 p n c (fl DG L),X]):=by
 refine AC func121 ntmps121 fun g w0 R h0=>go [.s 1 1]<|AS (bF) (Ey (x:=Ot 3) (y:=(Operand.const (.slice none 0 0))) (m:=n) (c:=c) kr underlying175 kr hp kr _)<|g0<|nG (fun q_=> .slice (some ⟨q_,0,none⟩) 0 0) 226 [] h0 (fun b l i=>⟨kd [],?_⟩)
 have j:sat g _ (Sl 226 8 (some ⟨b,0,none⟩) 0 0 (fl DG [])::_):=HO i rfl om
 refine g0 ?_
 refine AH ?_
 refine aG 7 8 (Ot 5) (Ot 6) (.agg #[iV 0,iV 0,uV 0,iV 0,iV 0,iV 0,iV 0,sV []]) (some ⟨b,0,none⟩) p 0 0 n c 72 underlying175 j 1 rfl (fl DG L) hX (by rw[Dg Ah,hL]) (Aw Ah _) n ?_
 intro d e o k
 have f:sat g _ (Sl 226 8 d n e (fl DG L)::_):=sI k
 obtain⟨q,t⟩:=BH f
 refine B1<|g0 ?_
 exact en _ [] ⟨_,_,rfl,⟨d,e,rfl,rfl⟩,f⟩
theorem Ih(p:Option Addr)(n c:Nat)(L:List Rs)(X:AB)(hX:Gv X p n (fl DG L))(hL:L.length=n)(hn:n≤1000000):HT prog 121 [.slice p n c] [X] (fun v K=> ∃(p:Option Addr) (c:Nat),v=.slice p n c∧K= [Sl 226 8 p n c (fl DG L),X]):=by
 cases p with
 |none=>
  have d:n=0∨0<n:=by omega
  rcases d with d|d
  · have e:L= []:=List.eq_nil_of_length_eq_zero om
    subst e
    subst d
    exact SG c X
  · intro g w F hs
    obtain⟨b,off,h1⟩:=F4 (j:=0) hs rfl hX d
    cases h1
 |some a=>exact Pu a _ rfl n c L X hX hL hn
theorem YV(b n:Nat)(A:List AM)(E:Tm)(RL:List Rs):HT prog 47 [pV b] [BD b n A E RL] (fun v K=> ∃M:Nat,v=pV M∧K= [BD b n A E RL,BD M n A E RL]):=by
 refine AC func47 ntmps47 fun g w0 R h0=>g0<|AF call119 (BF b n A E RL) h0 fun _ ai=>go [.s 3 100000] ?_
 obtain⟨p,C,l,o,E16,hM17,aj⟩:=Ay ai
 have hRl_:=hM17.2
 have N:=aj.c.t5
 have H:=Ca Ah dc N
 refine jnS (fun a w=> ∃rb:Nat,∃q:Nat,∃u:Nat,∃z:Option Addr,∃B:Nat,∃lr:Fr,a=mk 39 (([(0,pV b),(3,pV rb)]:Fr)++lr)∧sat g w [Cl rb [pV q,.map (some u),.slice z RL.length B] 177,Tb q n A,Gp kI vE u [],Sl 226 8 z RL.length B (fl DG RL),Cl b [pV p,.map (some C),.slice l RL.length o] 177,Tb p n A,Gp kI vE C E16,Sl 226 8 l RL.length o (fl DG RL),R]) ?_ ?_
 ·
  refine g0<|dw (AE [0,1,2,3,6,7,8,9] (Tr.an2 4 (Tr.an2 5 (Tr.an 10 (Tr.fl 11 (Tr.an 12 (Tr.fl 13 Tr.nil)))) 10 (Tr.an 5 (Tr.fl 11 (Tr.an 12 (Tr.fl 13 Tr.nil))))) 5 (Tr.an 4 (Tr.an 10 (Tr.fl 11 (Tr.an 12 (Tr.fl 13 Tr.nil))))))) N fun _ D=>go [rd 3 3 1 0 1 D,rd 3 9 1 2 1 D] ?_
  refine IN ?_ ?_
  ·
   refine cG call120 (EN p n A) D.b.t5 ?_
   rintro v K _ (⟨F,rfl,rfl⟩) ak
   have I:=CW ak
   refine⟨kd [rd 0 9 3 2 1 I],?_⟩
   refine IN ?_ ?_
   ·
    refine AH ?_
    refine Bw (t:=174) (d:=14) kI vE kr kr rfl I ?_
    intro O _ P
    refine⟨kd [rd 0 9 4 2 1 P],DE ?_⟩
    refine cG call121 (Ih l RL.length o RL (Sl 226 8 l RL.length o (fl DG RL)) (F5 _ _ _) H om) P.c.t7 ?_
    rintro v K _ (⟨Q,S,rfl,rfl⟩) al
    have am:=CW al
    refine⟨kd [],?_⟩
    refine g0<|nG (fun q_=>pV q_) 177 [pV F,.map (some O),.slice Q RL.length S] am (fun T _ ao=>⟨kd [],?_⟩)
    refine g0 ?_
    refine ET ?_
    exact⟨T,F,O,Q,S,_,(Ck [.k 0 (pV b),.k 3 (pV T)]),ao.x.e.x.d.f.x.f.t9⟩
   refine cG call121 (Ih l RL.length o RL (Sl 226 8 l RL.length o (fl DG RL)) (F5 _ _ _) H om) I.b.t6 ?_
   rintro v K _ (⟨U,V,rfl,rfl⟩) ap
   have aq:=CW ap
   refine⟨kd [],?_⟩
   refine AH ?_
   refine Bw (t:=174) (d:=14) kI vE kr kr rfl aq ?_
   intro W _ ar
   refine⟨kd [],DE ?_⟩
   refine g0<|nG (fun q_=>pV q_) 177 [pV F,.map (some W),.slice U RL.length V] ar (fun X _ au=>⟨kd [],?_⟩)
   refine g0 ?_
   refine ET ?_
   exact⟨X,F,W,U,V,_,(Ck [.k 0 (pV b),.k 3 (pV X)]),au.x.e.x.e.e.x.f.t9⟩
  refine AH ?_
  refine Bw (t:=174) (d:=14) kI vE kr kr rfl D ?_
  intro Y _ J
  refine⟨kd [rd 0 9 2 2 1 J,rd 0 3 2 0 1 J],DE ?_⟩
  refine cG call120 (EN p n A) J.c.t6 ?_
  rintro v K _ (⟨Z,rfl,rfl⟩) av
  have aa:=CW av
  refine⟨kd [rd 0 9 4 2 1 aa],?_⟩
  refine cG call121 (Ih l RL.length o RL (Sl 226 8 l RL.length o (fl DG RL)) (F5 _ _ _) H om) aa.c.t7 ?_
  rintro v K _ (⟨ab,ac,rfl,rfl⟩) aw
  have ax:=CW aw
  refine⟨kd [],?_⟩
  refine g0<|nG (fun q_=>pV q_) 177 [pV Z,.map (some Y),.slice ab RL.length ac] ax (fun ad _ ay=>⟨kd [],?_⟩)
  refine g0 ?_
  refine ET ?_
  exact⟨ad,Z,Y,ab,ac,_,(Ck [.k 0 (pV b),.k 3 (pV ad)]),ay.x.d.x.d.x.x.f.t9⟩
 rintro bn bo ⟨rb,q,u,z,B,bp,rfl,ae⟩
 refine ga ?_
 have az:=ae.f.t9
 refine go [rd 4 3 4 1 1 ae] ?_
 refine AH ?_
 refine F8 (t:=174) (d:=26) (x:=Ot 25) kr kr rfl underlying174 kr az ?_
 intro G _ ba
 refine B1<|g0 ?_
 refine Jc (fun mz_ a w=> ∃S_:Tm,∃Ec:Tm,∃cu_:Option (Int×Ety),∃lr:Fr,mz_=S_.length∧(Part E16 S_ Ec)∧a=mk 39 (([(3,pV rb),(26,pV G)]:Fr)++lr)∧sat g w [It kI vE C G E16 S_ cu_,Gp kI vE u Ec,Cl rb [pV q,.map (some u),.slice z RL.length B] 177,Tb q n A,Sl 226 8 z RL.length B (fl DG RL),Cl b [pV p,.map (some C),.slice l RL.length o] 177,Tb p n A,Sl 226 8 l RL.length o (fl DG RL),R]) E16.length ⟨E16,[],none,_,rfl,(SE hM17.1),(Ck [.k 3 (pV rb),.k 26 (pV G)]),ba.c.a.t9⟩ ?_
 rintro bq br bs ⟨S_,Ec,cu_,bt,rfl,hP_,rfl,bb⟩
 refine ga<|g0 ?_
 refine AH ?_
 refine Jf (d:=27) (x:=Ot 26) kr kr rfl kr bb ?_ ?_
 ·
  intro hS86 bc bd
  refine B1<|g0<|up<|g0 ?_
  have be:sat g bc [Gp kI vE C E16,Gp kI vE u Ec,Cl rb [pV q,.map (some u),.slice z RL.length B] 177,Tb q n A,Sl 226 8 z RL.length B (fl DG RL),Cl b [pV p,.map (some C),.slice l RL.length o] 177,Tb p n A,Sl 226 8 l RL.length o (fl DG RL),R]:=KB bd
  have bf:sat g _ (BD b n A E RL::_):=AV hM17.1 om (by first|rfl |omega) be.x.a.x.x.t9
  have bg:=bf.d.b.d.d.t6
  have bh:sat g _ (BD rb n A E RL::_):=AV (YT (hS86▸hP_) hM17.1) om (by first|rfl |omega) bg
  exact en _ [] ⟨_,_,rfl,⟨rb,rfl,rfl⟩,bh.a.t3⟩
 intro af j ag _ ah
 have bu:=SF ag
 refine B1<|g0 ?_
 refine AH ?_
 refine AX (d:=29) (.tuple #[iV j.1,.agg #[iV j.2.d.1,iV j.2.d.2.1,uV j.2.d.2.2,iV j.2.num,iV j.2.h.1,uV j.2.h.2]]) kr rfl (E9 (x:=Ot 26) kr kr ah (.tuple #[iV j.1,.agg #[iV j.2.d.1,iV j.2.d.2.1,uV j.2.d.2.2,iV j.2.num,iV j.2.h.1,uV j.2.h.2]]) rfl) ?_
 refine B1<|g0<|nP 228 [iV 0,iV 0,uV 0,iV 0,iV 0,uV 0] ah (fun _ _ bi=> ?_)
 refine g0<|sA [iV j.2.d.1,iV j.2.d.2.1,uV j.2.d.2.2,iV j.2.num,iV j.2.h.1,uV j.2.h.2] bi fun _ bj=>g0<|dw (AE [0,1,2,3,4,5] (Tr.an 6 Tr.nil)) bj fun _ L=> ?_
 have bk:=L.b.t10
 refine go [rd 7 3 3 1 1 L,rd 7 5 0 0 6 L] ?_
 refine AH ?_
 refine BL (t:=174) (m:=Ot 35) (x:=Ot 36) (y:=Ot 37) (kv:=kI) (ve:=vE) kr kr underlying174 Dc j.1 (⟨(j.2.d.1,j.2.d.2.1,j.2.d.2.2),j.2.num,(j.2.h.1,j.2.h.2)⟩:Ety) kr kr kr bk (Au Ec j.1 ⟨(j.2.d.1,j.2.d.2.1,j.2.d.2.2),j.2.num,(j.2.h.1,j.2.h.2)⟩) rfl ?_
 intro _ bl
 refine⟨kd [],IK ?_⟩
 refine g0 ?_
 refine ET ?_
 have bm:=bl.i.i.i.i.i.i.i.x.i.t10.t9
 change ∃n',n'<_∧_
 refine⟨(S_.eraseIdx af).length,by omega,(S_.eraseIdx af),(Au Ec j.1 ⟨(j.2.d.1,j.2.d.2.1,j.2.d.2.2),j.2.num,(j.2.h.1,j.2.h.2)⟩),(some j),_,rfl,(eD hP_ ag),(Ck [.k 3 (pV rb),.k 26 (pV G)]),bm⟩
theorem YW(b n:Nat)(S:Ts)(vn x y z st why tr nx:Int)(L:List UInt8)(a:0≤z)(c:z≤4294967295)(hm:L.length≤1099511627776):HQ 316 [pV b,iV vn,.agg #[iV x,iV y,uV z,iV st,iV why,iV tr,iV nx,sV L]] [TW b n S] (Value.int .i64 (CS S vn ⟨(x,y,z),st,why,tr,nx,L⟩)) [TW b n (Cc S vn ⟨(x,y,z),st,why,tr,nx,L⟩)]:=by
 refine I9 (fun W=> ?_) (fun W=>nI W _ _)
 have bad: ∀e:Int,CS S vn ⟨(x,y,z),st,why,tr,nx,L⟩=e→e≠0→HT prog 316 [pV b,iV vn,.agg #[iV x,iV y,uV z,iV st,iV why,iV tr,iV nx,sV L]] [BD b n S.A S.E S.R] (fun v K=>v=Value.int .i64 e∧K= [BD b n S.A S.E S.R])→HT prog 316 [pV b,iV vn,.agg #[iV x,iV y,uV z,iV st,iV why,iV tr,iV nx,sV L]] [BD b n S.A S.E S.R] (fun v K=>v=Value.int .i64 (CS S vn ⟨(x,y,z),st,why,tr,nx,L⟩)∧K= [BD b n (Cc S vn ⟨(x,y,z),st,why,tr,nx,L⟩).A (Cc S vn ⟨(x,y,z),st,why,tr,nx,L⟩).E (Cc S vn ⟨(x,y,z),st,why,tr,nx,L⟩).R]):=fun e d h2 h3=>by
  rw[eE d h2,d]
  exact h3
 by_cases hv:1≤vn∧vn≤(S.R.length:Int)
 · have j:nE S vn=0:=if_pos hv
   have hg:=Gc hv
   have hq:vn=((vn-1).toNat:Int)+1:=by omega
   have hres:FZ ⟨(x,y,z),st,why,tr,nx,L⟩=DH x y z st why tr nx L:=rfl
   by_cases hr:DH x y z st why tr nx L=0
   · by_cases ho:((x,y,z):Ky)=(AZ S vn).out
     · have i:x=(AZ S vn).out.1∧y=(AZ S vn).out.2.1∧z=(AZ S vn).out.2.2:=by rw[←ho];exact⟨rfl,rfl,rfl⟩
       by_cases ht:L=(AZ S vn).tag
       · have hnn: ¬((⟨(x,y,z),st,why,tr,nx,L⟩:Rs).out≠(AZ S vn).out∨(⟨(x,y,z),st,why,tr,nx,L⟩:Rs).tag≠(AZ S vn).tag):=fun h=>h.elim (fun h=>h ho) (fun h=>h ht)
         by_cases hs:st=1
         · have f:CS S vn ⟨(x,y,z),st,why,tr,nx,L⟩=0:=by unfold CS;rw[if_neg om,if_neg om,if_neg hnn,if_neg (fun h=>h.1 hs)]
           have hS:Cc S vn ⟨(x,y,z),st,why,tr,nx,L⟩=⟨S.A,S.E,S.R.set (vn-1).toNat ⟨(x,y,z),st,why,tr,nx,L⟩⟩:=by unfold Cc;rw[if_pos f]
           rw[f,hS]
           exact YO b n S.A S.E S.R vn x y z st why tr nx L a c hm _ _ hg hq hr i ht hs
         · by_cases hd:0<(Ch S.E vn).length
           · exact bad 8 (by unfold CS;rw[if_neg om,if_neg om,if_neg hnn,if_pos ⟨hs,hd⟩]) om (SD b n S.A S.E S.R vn x y z st why tr nx L a c hm _ _ hg hq hr i ht hs hd)
           · have f:CS S vn ⟨(x,y,z),st,why,tr,nx,L⟩=0:=by unfold CS;rw[if_neg om,if_neg om,if_neg hnn,if_neg (fun h=>hd h.2)]
             have hS:Cc S vn ⟨(x,y,z),st,why,tr,nx,L⟩=⟨S.A,S.E,S.R.set (vn-1).toNat ⟨(x,y,z),st,why,tr,nx,L⟩⟩:=by unfold Cc;rw[if_pos f]
             rw[f,hS]
             exact YQ b n S.A S.E S.R vn x y z st why tr nx L a c hm _ _ hg hq hr i ht om
       · exact bad 2 (by unfold CS;rw[if_neg om,if_neg om,if_pos (.inr ht)]) om (YN b n S.A S.E S.R vn x y z st why tr nx L a c hm _ _ hg hq hr i ht)
     · exact bad 2 (by unfold CS;rw[if_neg om,if_neg om,if_pos (.inl ho)]) om (YM b n S.A S.E S.R vn x y z st why tr nx L a c hm _ _ hg hq hr (fun h=>ho (Prod.ext h.1 (Prod.ext h.2.1 h.2.2))))
   · have d:CS S vn ⟨(x,y,z),st,why,tr,nx,L⟩=DH x y z st why tr nx L:=by unfold CS;rw[if_neg om,if_pos om,hres]
     exact bad _ d hr (YE b n S.A S.E S.R vn x y z st why tr nx L a c hm _ _ hg hq hr)
 · have d:nE S vn=3:=if_neg hv
   exact bad 3 (by unfold CS;rw[if_pos om]) om (dV b n S.A S.E S.R vn x y z st why tr nx L om)
theorem Hr(b n:Nat)(S:Ts)(vn:Int):HT prog 55 [pV b,iV vn] [TW b n S] (fun v K=> ∃(p:Option Addr) (c:Nat),v=.slice p ((AT S.R vn).length) c∧K= [TW b n S,Sl 3 1 p ((AT S.R vn).length) c (fl eI (AT S.R vn))]):=
 HT.wi fun W=>(YU b n S.A S.E S.R vn).post fun v K hP=>by
  obtain⟨p,c,h1,h2⟩:=hP
  exact⟨_,⟨p,c,h1,rfl⟩,fun g w F hs=>by rw[h2] at hs;exact MK W hs⟩
theorem Ni(b n:Nat)(S:Ts):HT prog 47 [pV b] [TW b n S] (fun v K=> ∃a:Nat,v=pV a∧K= [TW b n S,TW a n S]):=
 HT.wi fun W=>(YV b n S.A S.E S.R).post fun v K hP=>by
  obtain⟨a,h1,h2⟩:=hP
  exact⟨_,⟨a,h1,rfl⟩,fun g w F hs=>by rw[h2] at hs;exact MK W (FV (MK W (FV hs)))⟩
abbrev Fl:=Int×Int×Int
abbrev Xs:=List Fl
def eF(x:Fl):AM:=(x.1,x.2.1)
def As(X:Xs):List AM:=X.map eF
theorem E1(X:Xs):(As X).length=X.length:=List.length_map _
theorem nL{X:Xs}{i:Nat}{x:Fl}(h:X[i]? =some x):(As X)[i]? =some (x.1,x.2.1):=by
 unfold As
 rw[List.getElem?_map,h]
 rfl
theorem Nj(X:Xs)(i:Nat)(x:Fl):As (X.set i x)=(As X).set i (x.1,x.2.1):=List.map_set
def CT(o:Ky):Prop:=1≤o.1∧o.1≤3∧0≤o.2.1∧o.2.1≤63∧1≤o.2.2
instance (o:Ky):Decidable (CT o):=by unfold CT;infer_instance
def Cm(A:List AM)(o:Ky):Int:=if ¬CT o∨o.1≠1 then 2 else if (A.length:Int)≤o.2.1 then 3 else if A[o.2.1.toNat]? =some (1,o.2.2) then 0 else 7
theorem Gd(A:List AM){x y z:Int}(h: ¬(1≤x∧x≤3∧0≤y∧y≤63∧1≤z)∨x≠1):Cm A (x,y,z)=2:=if_pos h
theorem Vh(A:List AM){n:Nat}(hn:A.length=n){x y z:Int}(hx:x=1)(h1:0≤y)(h2:y≤63)(h3:1≤z)(hr:(n:Int)≤y):Cm A (x,y,z)=3:=by
 unfold Cm
 rw[if_neg (by rintro(h|h);exact h ⟨by show 1≤x;omega,by show x≤3;omega,h1,h2,h3⟩;exact h hx),if_pos (by rw[hn];exact hr)]
theorem YX(A:List AM){q:Nat}{s:AM}{x y z:Int}(hx:x=1)(h2:y≤63)(h3:1≤z)(hq:y=(q:Int))(hs:A[q]? =some s):Cm A (x,y,z)=if s.1=1∧s.2=z then 0 else 7:=by
 have hl:=(List.getElem?_eq_some_iff.1 hs).1
 obtain⟨s1,s2⟩:=s
 unfold Cm
 rw[if_neg (by rintro(h|h);exact h ⟨by show 1≤x;omega,by show x≤3;omega,by show 0≤y;omega,h2,h3⟩;exact h hx),if_neg (by show ¬(_≤y);omega)]
 show (if A[y.toNat]? =some (1,z) then (0:Int) else 7)=_
 rw[hq,Int.toNat_natCast,hs]
 simp only[Option.some.injEq,Prod.mk.injEq]
theorem YY(A:List AM){q:Nat}{s:AM}{x y z:Int}(hx:x=1)(h2:y≤63)(h3:1≤z)(hq:y=(q:Int))(hs:A[q]? =some s)(h:s.1=1∧s.2=z):Cm A (x,y,z)=0:=by rw[YX A hx h2 h3 hq hs,if_pos h]
theorem MZ(A:List AM){q:Nat}{s:AM}{x y z:Int}(hx:x=1)(h2:y≤63)(h3:1≤z)(hq:y=(q:Int))(hs:A[q]? =some s)(h: ¬(s.1=1∧s.2=z)):Cm A (x,y,z)=7:=by rw[YX A hx h2 h3 hq hs,if_neg h]
theorem YZ{A:List AM}{o:Ky}(h:Cm A o=0):CT o∧o.1=1∧o.2.1.toNat<A.length∧A[o.2.1.toNat]? =some (1,o.2.2):=by
 unfold Cm at h
 split at h
 · exact absurd h dc
 · rename_i h1
   split at h
   · exact absurd h dc
   · split at h
     · rename_i h3
       simp only[not_or,Decidable.not_not] at h1
       exact⟨h1.1,h1.2,(List.getElem?_eq_some_iff.1 h3).1,h3⟩
     · exact absurd h dc
theorem nM(A:List AM)(o:Ky):0≤Cm A o∧Cm A o≤7:=by
 unfold Cm
 split
 · decide
 · split
   · decide
   · split<;>decide
def GD(A:List AM)(o:Ky):List AM:=if Cm A o=0 then Ak A o.2.1.toNat o.2.2 else A
def eG(A:List AM)(E:Mm)(o:Ky):Mm:=if Cm A o=0 then Gs E o else E
def Gt(z:Int):Fl:=if z<4294967295 then (0,z+1,0) else (2,z,0)
def LP(X:Xs)(o:Ky):Xs:=if Cm (As X) o=0 then X.set o.2.1.toNat (Gt o.2.2) else X
def eH(X:Xs):List Ky:=(AJ 1 (As X) 0).map fun r=>(1,(r.1:Int),r.2)
def DX(X:Xs)(v:Int):Ky:=if v<0∨65535<v then (0,0,0) else if 0<(AJ 0 (As X) 0).length then (1,(((AJ 0 (As X) 0).getD 0 (0,0)).1:Int),((AJ 0 (As X) 0).getD 0 (0,0)).2) else (0,0,0)
def HB(X:Xs)(v:Int):Int:=if v<0∨65535<v then 2 else if 0<(AJ 0 (As X) 0).length then 0 else 4
def JV(X:Xs)(v:Int):Xs:=if v<0∨65535<v then X else if 0<(AJ 0 (As X) 0).length then X.set ((AJ 0 (As X) 0).getD 0 (0,0)).1 (1,((AJ 0 (As X) 0).getD 0 (0,0)).2,v) else X
theorem UD{X:Xs}{v:Int}(h:v<0∨65535<v):DX X v=(0,0,0)∧HB X v=2∧JV X v=X:=by
 unfold DX HB JV
 rw[if_pos h,if_pos h,if_pos h]
 exact⟨rfl,rfl,rfl⟩
theorem Pv{X:Xs}{v:Int}(h:0≤v∧v≤65535)(hf:(AJ 0 (As X) 0).length=0):DX X v=(0,0,0)∧HB X v=4∧JV X v=X:=by
 unfold DX HB JV
 rw[if_neg om,if_neg om,if_neg om,if_neg om,if_neg om,if_neg om]
 exact⟨rfl,rfl,rfl⟩
theorem Ya{X:Xs}{v:Int}(h:0≤v∧v≤65535){i:Nat}{g:Int}(hi:(AJ 0 (As X) 0)[0]? =some (i,g)):DX X v=(1,(i:Int),g)∧HB X v=0∧JV X v=X.set i (1,g,v):=by
 have hl:=(List.getElem?_eq_some_iff.1 hi).1
 unfold DX HB JV
 have a: ¬(v<0∨65535<v):=by omega
 rw[if_neg a,if_neg a,if_neg a,if_pos hl,if_pos hl,if_pos hl,getD_some hi]
 exact⟨rfl,rfl,rfl⟩
theorem Px(X:Xs)(q:Nat)(z:Int):Ak (As X) q z=As (X.set q (Gt z)):=by
 rw[Nj]
 unfold Ak Gt
 split<;>rfl
theorem UE(X:Xs)(o:Ky):GD (As X) o=As (LP X o):=by
 unfold GD LP
 split
 · exact Px X _ _
 · rfl
theorem Yb(E:Mm)(k a:Ky)(v:Int):J3 (G8 E k v) a=if a=k then some v else J3 E a:=by
 induction E with
 |nil=>simp only[G8,J3]
 |cons q E ih=>
  obtain⟨b,u⟩:=q
  simp only[G8]
  split
  · rename_i h
    subst h
    simp only[J3]
    split<;>rfl
  · rename_i h
    simp only[J3,ih]
    split
    · rename_i h1
      rw[if_neg (by rintro rfl;exact h h1)]
    · rfl
theorem Yc{E:Mm}{k a:Ky}(h:a≠k):J3 (Gs E k) a=J3 E a:=by
 induction E with
 |nil=>rfl
 |cons q E ih=>
  obtain⟨b,u⟩:=q
  simp only[Gs]
  split
  · rename_i h1
    subst h1
    simp only[J3]
    rw[if_neg h]
  · simp only[J3,ih]
def Nk(X:Xs)(E:Mm):Prop:= ∀(i:Nat) (g v:Int),X[i]? =some (1,g,v)→J3 E (1,(i:Int),g)=some v
theorem Yd{n:Nat}{g:Int}:Nk (List.replicate n (0,g,0)) []:=fun i a v h=>by
 have:=List.eq_of_mem_replicate (List.mem_of_getElem? h)
 simp only[Prod.mk.injEq] at this
 exact absurd this.1 dc
theorem FG{α:Type}{X:List α}{q i:Nat}{y x:α}(h:(X.set q y)[i]? =some x):(i=q∧x=y)∨(i≠q∧X[i]? =some x):=by
 by_cases hi:i=q
 · subst hi
   left
   have hl:i<X.length:=by
    have:=(List.getElem?_eq_some_iff.1 h).1
    simpa using this
   rw[List.getElem?_set_self hl] at h
   exact⟨rfl,(Option.some.inj h).symm⟩
 · right
   rw[List.getElem?_set_ne (fun h=>hi h.symm)] at h
   exact⟨hi,h⟩
theorem Vi{X:Xs}{E:Mm}{q:Nat}{g v:Int}(h:Nk X E):Nk (X.set q (1,g,v)) (G8 E (1,(q:Int),g) v):=fun i a u hi=>by
 rw[Yb]
 rcases FG hi with ⟨rfl,b⟩|⟨h1,b⟩
 · simp only[Prod.mk.injEq] at b
   obtain⟨_,rfl,rfl⟩:=b
   rw[if_pos rfl]
 · rw[if_neg (by simp only[Prod.mk.injEq,not_and];intro _ h3;omega)]
   exact h i a u b
theorem KP{X:Xs}{E:Mm}{o:Ky}(h:Nk X E):Nk (LP X o) (eG (As X) E o):=by
 unfold LP eG
 split
 · rename_i hc
   obtain⟨h1,h2,h3,h4⟩:=YZ hc
   intro i a u hi
   rcases FG hi with ⟨rfl,b⟩|⟨b,h6⟩
   · unfold Gt at b
     split at b<;>(simp only[Prod.mk.injEq] at b;exact absurd b.1 dc)
   · rw[Yc]
     · exact h i a u h6
     · rintro rfl
       exact b rfl
 · exact h
section
def Fd(b n:Nat)(X:Xs):AB:=fun h=> ∃x:Nat×Nat×Mm,(Nk X x.2.2∧n≤64)∧Aj [Cl b [.pointer (some ⟨x.1,0,none⟩),.map (some x.2.1)] 281,Tb x.1 n (As X),Mp x.2.1 x.2.2] h
section
variable {g w : World} {L : List AB} {b n : Nat} {X : Xs}
theorem Jk(h:sat g w (Fd b n X::L)): ∃s m E,(Nk X E∧n≤64)∧sat g w (Cl b [pV s,.map (some m)] 281::Tb s n (As X)::Mp m E::L):=by
 obtain⟨⟨s,m,E⟩,h1,h2⟩:=Af (X:=Nat×Nat×Mm) (p:=fun x=>Nk X x.2.2∧n≤64) (B:=fun x=>Aj [Cl b [.pointer (some ⟨x.1,0,none⟩),.map (some x.2.1)] 281,Tb x.1 n (As X),Mp x.2.1 x.2.2]) h (fun k hk=>hk)
 exact⟨s,m,E,h1,AK h2⟩
theorem DB{s m:Nat}{E E':Mm}{A:List AM}(h1:Nk X E')(h2:n≤64)(hA:A=As X)(hE:E=E')(h:sat g w (Cl b [pV s,.map (some m)] 281::Tb s n A::Mp m E::L)):sat g w (Fd b n X::L):=by
 subst hA
 subst hE
 exact AI (AO (K:= [Cl b [pV s,.map (some m)] 281,Tb s n (As X),Mp m E]) h) fun k hk=>⟨(s,m,E),⟨h1,h2⟩,hk⟩
end
theorem Fa{A:List AM}{o:Ky}{e:Int}(h:Cm A o=e)(he:e≠0):GD A o=A:=by
 unfold GD
 rw[if_neg om]
theorem nN{A:List AM}{x y z:Int}{q:Nat}(h:Cm A (x,y,z)=0)(hq:y=(q:Int)):GD A (x,y,z)=Ak A q z:=by
 unfold GD
 rw[if_pos h]
 show Ak A y.toNat z=_
 rw[hq,Int.toNat_natCast]
theorem eK{A:List AM}{E:Mm}{o:Ky}(h: ¬Cm A o=0):E=eG A E o:=(if_neg h).symm
theorem eL{A:List AM}{E:Mm}{o:Ky}(h:Cm A o=0):Gs E o=eG A E o:=(if_pos h).symm
theorem Nl(b s m:Nat):HQ 169 [pV b] [Cl b [pV s,.map (some m)] 281] (bT) [Cl b [pV s,.map (some m)] 281]:=by
 refine AC func169 ntmps169 fun g w0 R a=>go [rd 1 6 0 0 1 a] ?_
 exact AD _ [] a
theorem kU(y z:Int):HQ 399 [.agg #[iV y,uV z]] [] (.agg #[iV 1,iV y,uV z]) []:=by
 refine AC func399 ntmps399 fun g w0 R h0=>g0<|nP 203 [iV y,uV z] h0 (fun _ _ d=> ?_)
 refine nP 48 [iV 0,iV 0,uV 0] d (fun _ _ a=> ?_)
 refine go [rd 1 1 1 0 1 a,rd 1 3 1 1 1 a]<|sA [iV 1,iV y,uV z] a fun _ c=>g0 ?_
 exact AD _ [rd 0 0 0 0 3 c] c.b.t1
theorem eM(c2 j b s m n:Nat)(A:List AM)(q:Nat)(a:AM)(ha:A[q]? =some a)(i gn:Int)(hc:i=(q:Int)∧a.1=1∧a.2=gn):HQ 479 [.agg #[iV i,uV gn],pV c2,pV j] [Cl c2 [pV b] 179,Cl j [iV 0] 29,Cl b [pV s,.map (some m)] 281,Tb s n A] (.tuple #[]) [Cl c2 [pV b] 179,Cl j [iV 0] 29,Cl b [pV s,.map (some m)] 281,Tb s n (Ak A q gn)]:=by
 refine AC func479 ntmps479 fun g w0 R h0=>g0<|nP 203 [iV i,uV gn] h0 (fun _ _ k=> ?_)
 refine g0<|dw (AE [0,1,2,3,4] (Tr.an 5 (Tr.an 6 Tr.nil))) k fun _ f=> ?_
 have l:=f.d.t6
 refine go [rd 1 0 1 0 1 f,rd 1 3 3 0 1 f,rd 1 4 0 0 2 f]<|BZ call382 (Hk s n A q a ha i gn om) l fun _ o=>⟨kd [],?_⟩
 refine sB [iV 0] o.c.t6 fun _ p=>⟨kd [],?_⟩
 refine g0 ?_
 exact AD _ [] p.d.a.d.t6.e.d.d.d.d.t5
theorem nO(c2 c3 c c6 b s m n:Nat)(A:List AM)(E:Mm)(x y z:Int)(T:0≤z)(U:z≤4294967295):HQ 478 [pV b,.agg #[iV x,iV y,uV z],.func (Fn.func 479) #[] #[pV c2,pV c]] [Cl c2 [pV b] 179,Cl c [iV 0] 29,Cl b [pV s,.map (some m)] 281,Tb s n A] (iV (Cm A (x,y,z))) [Cl c2 [pV b] 179,Cl c [iV 0] 29,Cl b [pV s,.map (some m)] 281,Tb s n (GD A (x,y,z))]:=by
 refine AC func478 ntmps478 fun g w0 R u=> ?_
 have p:=DJ (j:=3) u rfl
 have hAl_:=p.1;have V:=p.2.1;have W:=p.2.2.1;have hok_:=p.2.2.2
 refine g0<|nP 48 [iV x,iV y,uV z] u (fun _ _ q=> ?_)
 refine go [rd 1 1 0 1 1 q,rd 1 3 0 2 1 q]<|nP 203 [iV 0,uV 0] q (fun _ _ C=> ?_)
 refine sA [iV y,uV z] C fun _ D=> ?_
 have G:=D.d.t7
 refine g0<|AF call169 (Nl b s m) G fun _ k=>go [rd 4 0 2 0 3 k] ?_
 by_cases X:1≤x;rotate_left
 ·
  refine AP call273 (Ao x y z om om om) k fun _ H=>g0 ?_
  have he_:Cm A (x,y,z)=2:=Gd A om
  have hc_:GD A (x,y,z)=A:=Fa he_ dc
  exact en (iV 2) [] ⟨_,[Cl c2 [pV b] 179,Cl c [iV 0] 29,Cl b [pV s,.map (some m)] 281,Tb s n A],rfl,⟨by rw[he_],by rw[hc_]⟩,H.e.a.e.e.t7.f.d.d.d.d.t5⟩
 by_cases Y:x≤3;rotate_left
 ·
  refine AP call273 (Ao x y z om om om) k fun _ I=>g0 ?_
  have he_:Cm A (x,y,z)=2:=Gd A om
  have hc_:GD A (x,y,z)=A:=Fa he_ dc
  exact en (iV 2) [] ⟨_,[Cl c2 [pV b] 179,Cl c [iV 0] 29,Cl b [pV s,.map (some m)] 281,Tb s n A],rfl,⟨by rw[he_],by rw[hc_]⟩,I.e.a.e.e.t7.f.d.d.d.d.t5⟩
 by_cases Z:0≤y;rotate_left
 ·
  refine AP call273 (Ao x y z om om om) k fun _ J=>g0 ?_
  have he_:Cm A (x,y,z)=2:=Gd A om
  have hc_:GD A (x,y,z)=A:=Fa he_ dc
  exact en (iV 2) [] ⟨_,[Cl c2 [pV b] 179,Cl c [iV 0] 29,Cl b [pV s,.map (some m)] 281,Tb s n A],rfl,⟨by rw[he_],by rw[hc_]⟩,J.e.a.e.e.t7.f.d.d.d.d.t5⟩
 by_cases aa:y≤63;rotate_left
 ·
  refine AP call273 (Ao x y z om om om) k fun _ L=>g0 ?_
  have he_:Cm A (x,y,z)=2:=Gd A om
  have hc_:GD A (x,y,z)=A:=Fa he_ dc
  exact en (iV 2) [] ⟨_,[Cl c2 [pV b] 179,Cl c [iV 0] 29,Cl b [pV s,.map (some m)] 281,Tb s n A],rfl,⟨by rw[he_],by rw[hc_]⟩,L.e.a.e.e.t7.f.d.d.d.d.t5⟩
 by_cases ab:1≤z;rotate_left
 ·
  refine AP call273 (Ao x y z om om om) k fun _ M=>g0 ?_
  have he_:Cm A (x,y,z)=2:=Gd A om
  have hc_:GD A (x,y,z)=A:=Fa he_ dc
  exact en (iV 2) [] ⟨_,[Cl c2 [pV b] 179,Cl c [iV 0] 29,Cl b [pV s,.map (some m)] 281,Tb s n A],rfl,⟨by rw[he_],by rw[hc_]⟩,M.e.a.e.e.t7.f.d.d.d.d.t5⟩
 refine AP call273 (Bg x y z om om om) k fun _ t=>go [rd 4 5 2 0 1 t,.s 4 6] ?_
 by_cases ac:x=1;rotate_left
 ·
  refine go [.v 4 6 (Tc x 1)] ?_
  have he_:Cm A (x,y,z)=2:=Gd A om
  have hc_:GD A (x,y,z)=A:=Fa he_ dc
  exact en (iV 2) [] ⟨_,[Cl c2 [pV b] 179,Cl c [iV 0] 29,Cl b [pV s,.map (some m)] 281,Tb s n A],rfl,⟨by rw[he_],by rw[hc_]⟩,t.e.a.e.e.t7.f.d.d.d.d.t5⟩
 refine go [.v 4 6 (Db x 1)]<|dw (AE [0,1,2,3,4] (Tr.an 5 (Tr.fl 6 Tr.nil))) t fun _ o=>go [rd 6 3 0 0 1 o,rd 6 4 1 0 2 o] ?_
 by_cases ad:y<(n:Int);rotate_left
 ·
  refine BZ call325 (Ph s n A y z om) o.e.t7 fun _ N=>⟨kd [],?_⟩
  refine g0 ?_
  have he_:Cm A (x,y,z)=3:=Vh A hAl_ om om om om om
  have hc_:GD A (x,y,z)=A:=Fa he_ dc
  exact en (iV 3) [] ⟨_,[Cl c2 [pV b] 179,Cl c [iV 0] 29,Cl b [pV s,.map (some m)] 281,Tb s n A],rfl,⟨by rw[he_],by rw[hc_]⟩,N.a.e.e.t7.f.d.d.d.d.t5⟩
 obtain⟨kk35,ae⟩: ∃z_:Nat,y=(z_:Int):=⟨(y).toNat,by omega⟩
 obtain⟨l,i⟩: ∃x:AM,A[kk35]? =some x:=⟨_,List.getElem?_eq_getElem (by rw[hAl_];omega)⟩
 have af:=hok_ l (List.mem_of_getElem? i)
 by_cases ag:l.1=1
 ·
  by_cases ah:l.2=z
  ·
   refine BZ call325 (GA s n A kk35 l i y z om) o.e.t7 fun _ B=>⟨kd [],?_⟩
   have O:=B.a.e.e.t7
   refine go [rd 9 1 2 0 2 B]<|IL call479 (eM c2 c b s m n A kk35 l i y z om) O fun _ P=>g0 ?_
   have he_:Cm A (x,y,z)=0:=YY A om om om om i om
   have hc_:GD A (x,y,z)=(Ak A kk35 z):=nN he_ om
   exact en (iV 0) [] ⟨_,[Cl c2 [pV b] 179,Cl c [iV 0] 29,Cl b [pV s,.map (some m)] 281,Tb s n (Ak A kk35 z)],rfl,⟨by rw[he_],by rw[hc_]⟩,P.F.E.t5⟩
  refine BZ call325 (JC s n A kk35 l i y z om) o.e.t7 fun _ Q=>⟨kd [],?_⟩
  refine g0 ?_
  have he_:Cm A (x,y,z)=7:=MZ A om om om om i om
  have hc_:GD A (x,y,z)=A:=Fa he_ dc
  exact en (iV 7) [] ⟨_,[Cl c2 [pV b] 179,Cl c [iV 0] 29,Cl b [pV s,.map (some m)] 281,Tb s n A],rfl,⟨by rw[he_],by rw[hc_]⟩,Q.a.e.e.t7.f.d.d.d.d.t5⟩
 refine BZ call325 (JC s n A kk35 l i y z om) o.e.t7 fun _ S=>⟨kd [],?_⟩
 refine g0 ?_
 have he_:Cm A (x,y,z)=7:=MZ A om om om om i om
 have hc_:GD A (x,y,z)=A:=Fa he_ dc
 exact en (iV 7) [] ⟨_,[Cl c2 [pV b] 179,Cl c [iV 0] 29,Cl b [pV s,.map (some m)] 281,Tb s n A],rfl,⟨by rw[he_],by rw[hc_]⟩,S.a.e.e.t7.f.d.d.d.d.t5⟩
end
theorem nQ(b n:Nat)(A:List AM)(h:0<(AJ 0 A 0).length):HT prog 231 [pV b] [Tb b n A] (fun v K=>v=.tuple #[.agg #[Value.int .i64 (((AJ 0 A 0).getD 0 (0,0)).1:Int),Value.int .u32 ((AJ 0 A 0).getD 0 (0,0)).2],Value.int .i64 0]∧K= [Tb b n (A.set ((AJ 0 A 0).getD 0 (0,0)).1 (1,((AJ 0 A 0).getD 0 (0,0)).2))]):=
 (Gb b n A).mono fun v K hP=>by
  rw[(CQ h).1,(CQ h).2] at hP
  exact hP
theorem nR(b n:Nat)(A:List AM)(h:(AJ 0 A 0).length=0):HT prog 231 [pV b] [Tb b n A] (fun v K=>v=.tuple #[.agg #[Value.int .i64 0,Value.int .u32 0],Value.int .i64 4]∧K= [Tb b n A]):=
 (Gb b n A).mono fun v K hP=>by
  rw[(Dj h).1,(Dj h).2] at hP
  exact hP
theorem Ye{L:List (Nat×Int)}(h:0<L.length):L[0]? =some ((L.getD 0 (0,0)).1,(L.getD 0 (0,0)).2):=by
 rw[getD_some (List.getElem?_eq_getElem h),List.getElem?_eq_getElem h]
theorem nS{α β:Type}(f:α→β){l:List α}{i:Nat}{x:α}(h:l[i]? =some x):(l.take i).map f++ [f x]=(l.take (i+1)).map f:=by
 rw[List.take_add_one,h,List.map_append]
 rfl
theorem SH{α β:Type}(f:α→β){l:List α}{i:Nat}(h:l.length≤i):(l.take i).map f=l.map f:=by rw[List.take_of_length_le h]
theorem nT(m:Nat)(E:Mm):HT prog 170 [.map (some m)] [Mp m E] (fun v K=> ∃c:Nat,v= .map (some c)∧K= [Mp m E,Mp c E]):=by
 refine AC func170 ntmps170 fun g w0 R h0=>go [.s 3 1]<|AS (.iface 279 (.map (some m))) (BS (t:=279) (x:=Ot 5) kr underlying279 rfl (.map (some m)) kr _) ?_
 refine AH ?_
 refine bN (t:=279) (d:=7) (f:=245) kr rfl (fun w_=>by rw[run_callFunc_extern func245 kr kr kr (e:=Extern.MapsClone.clone) kr];simp only[Sem.run_bind,Sem.run_pure]) h0 ?_
 intro b _ i
 refine B1<|AS (.map (some b)) (Ew (t:=279) (s:=20) (x:=Ot 7) kr underlying279 rfl (.map (some b)) kr _)<|g0 ?_
 exact en _ [] ⟨_,_,rfl,⟨b,rfl,rfl⟩,i.a.t3⟩
theorem eN(n:Nat)(gn:Int)(hn:1≤n∧n≤64)(hgn:1≤gn∧gn≤4294967295):HT prog 69 [iV n,uV gn] [] (fun v K=> ∃b:Nat,v= .tuple #[pV b,iV 0]∧K= [Fd b n (List.replicate n (0,gn,0))]):=by
 refine AC func69 ntmps69 fun g w0 R h0=>go [.v 1 1 (oF ((n:Int)>64))]<|cP call67 (Hi n om gn om) h0 ?_
 rintro v K _ (⟨f,rfl,rfl⟩) i
 have j:=B3 i
 refine g0 ?_
 refine AH ?_
 refine Rp (t:=279) (d:=20) kr kr rfl j ?_
 intro k _ l
 refine B1<|g0<|nP 281 [pV f,.map (some k)] l (fun e p m=> ?_)
 refine g0 ?_
 have c:n≤64:=by omega
 have o:sat g _ (Fd e n (List.replicate n (0,gn,0))::_):=DB Yd om List.map_replicate.symm rfl m.b.a.t4
 exact en _ [] ⟨_,_,rfl,⟨e,rfl,rfl⟩,o⟩
theorem Yf(b n:Nat)(X:Xs)(v:Int):HT prog 344 [pV b,iV v] [Fd b n X] (fun r K=>r= .tuple #[.agg #[iV (DX X v).1,iV (DX X v).2.1,uV (DX X v).2.2],iV (HB X v)]∧K= [Fd b n (JV X v)]):=by
 refine AC func344 ntmps344 fun g w0 R h0=> ?_
 obtain⟨l,H,E12,hN13,q⟩:=Jk h0
 have f:=hN13.2
 have o:=DJ (j:=1) q rfl
 have hAl_:=o.1;have i:=o.2.1;have hok_:=o.2.2.2
 refine g0<|nP 48 [iV 0,iV 0,uV 0] q (fun ae _ I=> ?_)
 have J:=I.a.t5
 refine g0<|AF call169 (Nl b l H) J fun _ k=>go [.s 3 1] ?_
 by_cases u:v<0
 ·
  have L:=k.a.t5
  refine go [.v 3 1 (oT _ u)]<|sA [iV 0,iV 0,uV 0] L fun af z=>g0 ?_
  have ho_:=UD (X:=X) (v:=v) om
  have M:sat g _ (Fd b n X::_):=DB hN13.1 om rfl rfl z.c.c.c.t5
  exact en (.tuple #[.agg #[iV 0,iV 0,uV 0],iV 2]) [rd 0 0 0 0 3 z] ⟨_,[Fd b n X],rfl,⟨by rw[ho_.1,ho_.2.1],by rw[ho_.2.2]⟩,M.B.t2⟩
 refine go [.v 3 1 (oF _ u),.s 3 4] ?_
 by_cases A:v>65535
 ·
  have N:=k.a.t5
  refine go [.v 3 4 (oT _ A)]<|sA [iV 0,iV 0,uV 0] N fun ag C=>g0 ?_
  have ho_:=UD (X:=X) (v:=v) om
  have O:sat g _ (Fd b n X::_):=DB hN13.1 om rfl rfl C.c.c.c.t5
  exact en (.tuple #[.agg #[iV 0,iV 0,uV 0],iV 2]) [rd 0 0 0 0 3 C] ⟨_,[Fd b n X],rfl,⟨by rw[ho_.1,ho_.2.1],by rw[ho_.2.2]⟩,O.B.t2⟩
 refine go [.v 3 4 (oF _ A),rd 5 3 0 0 1 k] ?_
 by_cases ah:0<(AJ 0 (As X) 0).length
 ·
  refine AF call231 (nQ l n (As X) om) k.b.t5 fun _ P=>g0<|nP 203 [iV 0,uV 0] P (fun ai _ Q=> ?_)
  refine sA [iV ((((AJ 0 (As X) 0).getD 0 (0,0)).1:Nat):Int),uV (((AJ 0 (As X) 0).getD 0 (0,0)).2)] Q fun _ D=>go [rd 8 0 0 0 2 D]<|AP call399 (kU ((((AJ 0 (As X) 0).getD 0 (0,0)).1:Nat):Int) (((AJ 0 (As X) 0).getD 0 (0,0)).2)) D fun _ S=>nP 48 [iV 0,iV 0,uV 0] S (fun aj _ T=> ?_)
  refine sA [iV 1,iV ((((AJ 0 (As X) 0).getD 0 (0,0)).1:Nat):Int),uV (((AJ 0 (As X) 0).getD 0 (0,0)).2)] T fun _ U=>g0<|dw (AE [0,1,2,3,4,5] (Tr.an 6 Tr.nil)) U fun _ p=> ?_
  have V:=p.e.t7
  refine go [rd 9 3 3 1 1 p,rd 9 4 0 0 3 p] ?_
  refine AH ?_
  refine NL (t:=279) (m:=Ot 39) (x:=Ot 40) (y:=Ot 41) kr kr underlying279 Xp (1,((((AJ 0 (As X) 0).getD 0 (0,0)).1:Nat):Int),((AJ 0 (As X) 0).getD 0 (0,0)).2) v kr kr kr V (G8 E12 (1,((((AJ 0 (As X) 0).getD 0 (0,0)).1:Nat):Int),((AJ 0 (As X) 0).getD 0 (0,0)).2) v) rfl ?_
  intro _ E
  refine⟨kd [],IK ?_⟩
  have W:=E.e.t7
  refine go [rd 10 0 1 0 3 E]<|sA [iV 1,iV ((((AJ 0 (As X) 0).getD 0 (0,0)).1:Nat):Int),uV (((AJ 0 (As X) 0).getD 0 (0,0)).2)] W fun ak F=>g0 ?_
  have ho_:=Ya (X:=X) (v:=v) ⟨by omega,by omega⟩ (Ye om)
  have Y:sat g _ (Fd b n (X.set ((AJ 0 (As X) 0).getD 0 (0,0)).1 (1,((AJ 0 (As X) 0).getD 0 (0,0)).2,v))::_):=DB (Vi hN13.1) om (Nj X _ (1,_,v)).symm rfl F.a.d.e.t7
  exact en (.tuple #[.agg #[iV 1,iV ((((AJ 0 (As X) 0).getD 0 (0,0)).1:Nat):Int),uV (((AJ 0 (As X) 0).getD 0 (0,0)).2)],iV 0]) [rd 0 0 0 0 3 F] ⟨_,[Fd b n (X.set ((AJ 0 (As X) 0).getD 0 (0,0)).1 (1,((AJ 0 (As X) 0).getD 0 (0,0)).2,v))],rfl,⟨by rw[ho_.1,ho_.2.1],by rw[ho_.2.2]⟩,Y.d.a.t2⟩
 refine AF call231 (nR l n (As X) om) k.b.t5 fun _ Z=>g0<|nP 203 [iV 0,uV 0] Z (fun al _ aa=> ?_)
 refine sA [iV 0,uV 0] aa fun _ ab=> ?_
 have ac:=ab.c.t6
 refine g0<|sA [iV 0,iV 0,uV 0] ac fun am G=>g0 ?_
 have ho_:=Pv (X:=X) (v:=v) ⟨by omega,by omega⟩ om
 have ad:sat g _ (Fd b n X::_):=DB hN13.1 om rfl rfl G.d.c.d.t6
 exact en (.tuple #[.agg #[iV 0,iV 0,uV 0],iV 4]) [rd 0 0 0 0 3 G] ⟨_,[Fd b n X],rfl,⟨by rw[ho_.1,ho_.2.1],by rw[ho_.2.2]⟩,ad.c.a.t2⟩
theorem Vj(b n:Nat)(X:Xs)(x y z:Int)(L:0≤z)(M:z≤4294967295):HQ 452 [pV b,.agg #[iV x,iV y,uV z]] [Fd b n X] (iV (Cm (As X) (x,y,z))) [Fd b n (LP X (x,y,z))]:=by
 refine AC func452 ntmps452 fun g w0 R h0=> ?_
 obtain⟨A,o,E12,hN13,p⟩:=Jk h0
 have c:=hN13.2
 have k:=DJ (j:=1) p rfl
 have hAl_:=k.1;have f:=k.2.1;have hok_:=k.2.2.2
 refine g0<|nP 179 [pV b] p (fun B _ C=> ?_)
 refine nP 48 [iV x,iV y,uV z] C (fun N _ D=> ?_)
 refine g0<|nP 29 [iV 0] D (fun E _ l=> ?_)
 have hbd_:=nM (As X) (x,y,z)
 have F:=l.d.d.b.d.t7
 refine go [rd 2 0 2 0 1 l,rd 2 1 1 0 3 l]<|IL call478 (nO B 0 E 0 b A o n (As X) E12 x y z om om) F fun O q=>go [.s 3 1] ?_
 by_cases P:(Cm (As X) (x,y,z))=0
 ·
  refine go [.v 3 1 (Db (Cm (As X) (x,y,z)) 0)]<|dw (AE [0,1,2,3,4] (Tr.an 5 Tr.nil)) q fun _ i=> ?_
  have G:=i.e.t7
  refine go [rd 5 0 0 0 1 i,rd 5 3 2 1 1 i,rd 5 4 4 0 3 i] ?_
  refine AH ?_
  refine VI (t:=279) (t2:=48) (d:=none) (m:=Ot 17) (x:=Ot 18) kr underlying279 Xp (x,y,z) kr kr G kr (Gs E12 (x,y,z)) rfl ?_
  intro Q H
  refine⟨_,rfl,?_⟩
  have u:sat g _ (Mp o (Gs E12 (x,y,z))::_):=H
  refine⟨kd [],IK ?_⟩
  refine go [rd 6 0 2 0 1 u] ?_
  have I:sat g _ (Fd b n (LP X (x,y,z))::_):=DB (KP hN13.1) om (UE X _) (eL om) u.d.d.t7
  exact en (iV 0) [] ⟨_,_,rfl,⟨by rw[show Cm (As X) (x,y,z)=0 from by omega],rfl⟩,I.d.a.t2⟩
 refine go [.v 3 1 (Tc (Cm (As X) (x,y,z)) 0)] ?_
 have J:sat g _ (Fd b n (LP X (x,y,z))::_):=DB (KP hN13.1) om (UE X _) (eK om) q.e.d.d.t7
 exact AD (iV (Cm (As X) (x,y,z))) [] J.d.a.t2
theorem Py(b n:Nat)(X:Xs):HT prog 106 [pV b] [Fd b n X] (fun v K=> ∃l:Nat,v=pV l∧K= [Fd b n X,Fd l n X]):=by
 refine AC func106 ntmps106 fun g w0 R h0=> ?_
 obtain⟨m,o,E12,hN13,p⟩:=Jk h0
 have e:=hN13.2
 have i:=DJ (j:=1) p rfl
 have hAl_:=i.1;have f:=i.2.1;have hok_:=i.2.2.2
 refine g0<|AF call169 (Nl b m o) p fun _ t=>g0<|dw (AE [0,1,2,3,5,6,7,8] (Tr.an 4 (Tr.an 9 (Tr.fl 10 (Tr.an 11 (Tr.fl 12 Tr.nil)))))) t fun _ k=> ?_
 have u:=k.a.t4
 refine go [rd 3 3 0 0 1 k,rd 3 8 0 1 1 k]<|cG call120 (EN m n (As X)) u ?_
 rintro v K _ (⟨x,rfl,rfl⟩) y
 have q:=CW y
 refine⟨kd [rd 0 8 2 1 1 q],?_⟩
 refine cG call170 (nT o E12) q.c.t5 ?_
 rintro v K _ (⟨z,rfl,rfl⟩) A
 have B:=CW A
 refine⟨kd [],?_⟩
 refine g0<|nG (fun q_=>pV q_) 281 [pV x,.map (some z)] B (fun s F C=>⟨kd [],?_⟩)
 refine g0 ?_
 have D:sat g _ (Fd s n X::_):=DB hN13.1 om rfl rfl C.b.d.b.t7
 have E:sat g _ (Fd b n X::_):=DB hN13.1 om rfl rfl D.a.b.c.t5
 exact en _ [] ⟨_,_,rfl,⟨s,rfl,rfl⟩,E⟩
theorem eP(b n:Nat)(X:Xs):HT prog 543 [pV b] [Fd b n X] (fun v K=> ∃(p:Option Addr) (c:Nat),v= .slice p ((AJ 1 (As X) 0).length) c∧K= [Fd b n X,Sl 48 3 p ((AJ 1 (As X) 0).length) c (fl eO (eH X))]):=by
 refine AC func543 ntmps543 fun g w0 R h0=> ?_
 obtain⟨A,F,E12,hN13,M⟩:=Jk h0
 have f:=hN13.2
 have G:=DJ (j:=1) M rfl
 have hAl_:=G.1;have l:=G.2.1;have hok_:=G.2.2.2
 refine g0<|AF call169 (Nl b A F) M fun _ N=> ?_
 have T:=N.a.t4
 refine go [rd 4 3 0 0 1 N]<|cP call459 (GB A n (As X)) T ?_
 rintro v K aj (⟨y,z,rfl,rfl⟩) U
 have V:=CW U
 refine g0 ?_
 have hl_:((AJ 1 (As X) 0).length)≤64:=by have m:=DU 1 (As X) 0;omega
 have W:sat g _ (Sl 48 3 none 0 0 (fl eO [])::_):=CP 48 3 V
 refine Jc (fun mz_ a w=> ∃i:Nat,∃t:Option Addr,∃u:Nat,∃lr:Fr,mz_=((AJ 1 (As X) 0).length)-i∧(i≤((AJ 1 (As X) 0).length))∧a=mk 26 (([(3,.slice t i u),(13,.slice y ((AJ 1 (As X) 0).length) z),(14,iV (((AJ 1 (As X) 0).length:Nat):Int)),(15,iV i)]:Fr)++lr)∧sat g w [Sl 48 3 t i u (fl eO (((AJ 1 (As X) 0).take i).map (fun r:Nat×Int=>((1,(r.1:Int),r.2):Ky)))),Sl 203 2 y ((AJ 1 (As X) 0).length) z (fl He (AJ 1 (As X) 0)),Cl b [pV A,.map (some F)] 281,Tb A n (As X),Mp F E12,R]) (((AJ 1 (As X) 0).length)-0) ⟨0,none,0,_,rfl,(Nat.zero_le _),(Ck [.k 3 (.slice none 0 0),.k 13 (.slice y ((AJ 1 (As X) 0).length) z),.k 14 (iV (((AJ 1 (As X) 0).length:Nat):Int)),.o 15 (oJ .i64 0 (0:Int))]),W.c.c.b.t6⟩ ?_
 rintro ak al am ⟨i,t,u,an,rfl,hi,rfl,H⟩
 refine ga<|go [.s 5 0] ?_
 by_cases O:(i:Int)<(((AJ 1 (As X) 0).length:Nat):Int)
 ·
  obtain⟨I,J⟩:=Av (j:=1) H rfl om
  refine go [.v 5 0 (oT _ O),.s 6 0]<|AS (.pointer (some ⟨I,i*2,none⟩)) (Ft (Ot 13) (Ot 15) y I 0 (i:Int) ((AJ 1 (As X) 0).length) z underlying392 2 i J (i*2)) ?_
  have B:=H.a.t6
  have Y:=Ca Bf dc B
  obtain⟨q,L⟩: ∃x,(AJ 1 (As X) 0)[i]? =some x:=⟨_,List.getElem?_eq_getElem (by rw[Y];omega)⟩
  refine go [.r 6 1 I (i*2) [iV (q.1:Int),uV q.2] ⟨CM 0 B rfl J Bf 0 (iV (q.1:Int)) L (i*2),CM 0 B rfl J Bf 1 (uV q.2) L (i*2+1),trivial⟩]<|nP 203 [iV 0,uV 0] B (fun ao _ Z=> ?_)
  refine sA [iV (q.1:Int),uV q.2] Z fun _ P=>go [rd 7 1 0 0 2 P]<|AP call399 (kU (q.1:Int) q.2) P fun _ aa=>nG (fun q_=> .slice (some ⟨q_,0,none⟩) 1 1) 48 [iV 1,iV (q.1:Int),uV q.2] aa (fun ab _ ac=>⟨kd [],?_⟩)
  have Q:=ac.c.t8
  refine AH ?_
  refine aA 23 3 (Ot 19) (Ot 22) (.agg #[iV 0,iV 0,uV 0]) t i u 1 1 (⟨ab,0,none⟩) 24 underlying514 Q (fl eO [(1,(q.1:Int),q.2)]) rfl (Br Q rfl) (Aw B6 _) (i+1) ?_
  intro D E ap ad
  have S:sat g _ (Sl 48 3 D (i+1) E (fl eO ((((AJ 1 (As X) 0).take i).map (fun r:Nat×Int=>((1,(r.1:Int),r.2):Ky)))++ [(1,(q.1:Int),q.2)]))::_):=sJ ad
  obtain⟨aq,ar⟩:=BH S
  refine B1<|go [.v 8 0 (CD ((i:Int)+1))] ?_
  refine ET ?_
  have ae:sat g _ (Sl 48 3 D (i+1) E (fl eO (((AJ 1 (As X) 0).take (i+1)).map (fun r:Nat×Int=>((1,(r.1:Int),r.2):Ky))))::_):=AI S (fun _ hh_=>by rw[show (((((AJ 1 (As X) 0).take i).map (fun r:Nat×Int=>((1,(r.1:Int),r.2):Ky)))++ [(1,(q.1:Int),q.2)]):List Ky)=(((AJ 1 (As X) 0).take (i+1)).map (fun r:Nat×Int=>((1,(r.1:Int),r.2):Ky))) from nS (fun r:Nat×Int=>((1,(r.1:Int),r.2):Ky)) L] at hh_;exact hh_)
  have af:=ae.x.x.x.x.x.e.t8.t6
  change ∃n',n'<_∧_
  refine⟨(((AJ 1 (As X) 0).length)-(i+1)),by omega,(i+1),D,E,_,rfl,om,(Ck [.k 3 (.slice D (i+1) E),.k 13 (.slice y ((AJ 1 (As X) 0).length) z),.k 14 (iV (((AJ 1 (As X) 0).length:Nat):Int)),.o 15 (oJ .i64 ((i:Int)+1) (((i+1):Nat):Int))]),af⟩
 refine go [.v 5 0 (oF _ O)]<|up<|g0 ?_
 have ag:sat g _ (Sl 48 3 t i u (fl eO (eH X))::_):=AI H (fun _ hh_=>by rw[show ((((AJ 1 (As X) 0).take i).map (fun r:Nat×Int=>((1,(r.1:Int),r.2):Ky))):List Ky)=(eH X) from (SH _ om)] at hh_;exact hh_)
 have hi_:i=((AJ 1 (As X) 0).length):=by omega
 have ah:sat g _ (Sl 48 3 t ((AJ 1 (As X) 0).length) u (fl eO (eH X))::_):=AI ag (fun _ hh_=>by rw[hi_] at hh_;exact hh_)
 have ai:sat g _ (Fd b n X::_):=DB hN13.1 om rfl rfl ah.d.d.d.t6
 exact en (.slice t i u) [] ⟨_,_,rfl,⟨t,u,by rw[hi_],rfl⟩,ai.C.t3⟩
def ix(z:Int):Int:=if z=111 then 0 else if z=108 then 1 else if z=102 then 2 else -1
def lt(z:Int):UInt8:=if z=1 then 111 else if z=2 then 108 else 102
theorem lt1{z:Int}(h:z=1):lt z=111:=by subst h;rfl
theorem lt2{z:Int}(h:z=2):lt z=108:=by subst h;rfl
theorem tV{L:List Int}{x:Int}(h:L[0]? =some x):L.headD 1=x:=by
 cases L with
 |nil=>simp at h
 |cons y L=>simpa using h
theorem eR(L:List Int):L.drop 1=L.tail:=by simp
section
open Go.RowKit
def Sr(T b:Nat)(L:List Int):AB:=fun h=>L.length≤2000∧ ∃x:Option Addr×Nat,Aj [Cl b [bT,.slice x.1 L.length x.2] T,Vw 3 1 x.1 L.length x.2 (fl eI L)] h
section
variable {g w : World} {A : List AB} {T b : Nat} {L : List Int} {l : List UInt8} {p ad : Option Addr} {c : Nat}
theorem UF(h:sat g w (Sr T b L::A)):L.length≤2000∧ ∃p c,sat g w (Cl b [bT,.slice p L.length c] T::Vw 3 1 p L.length c (fl eI L)::A):=by
 obtain⟨⟨p,c⟩,hl,a⟩:=Af (X:=Option Addr×Nat) (p:=fun _=>L.length≤2000) (B:=fun x=>Aj [Cl b [bT,.slice x.1 L.length x.2] T,Vw 3 1 x.1 L.length x.2 (fl eI L)]) h (fun k hk=>by
  obtain⟨a,x,h2⟩:=hk
  exact⟨x,a,h2⟩)
 exact⟨hl,p,c,AK a⟩
theorem GE(hl:L.length≤2000)(h:sat g w (Cl b [bT,.slice p L.length c] T::Vw 3 1 p L.length c (fl eI L)::A)):sat g w (Sr T b L::A):=
 AI (AO (K:= [Cl b [bT,.slice p L.length c] T,Vw 3 1 p L.length c (fl eI L)]) h) fun k hk=>⟨hl,(p,c),hk⟩
end
section
variable {g w : World} {A : List AB} {T b : Nat} {L : List Int} {p : Option Addr} {c : Nat}
theorem eS{q:Option Addr}{b' off off':Nat}(hp:p=some ⟨b',off,none⟩)(hq:q=some ⟨b',off',none⟩)(hn:0<L.length)(ho:(if c=1 then off else off+1*1)=off')(h:sat g w (Vw 3 1 p L.length c (fl eI L)::A)):sat g w (Vw 3 1 q L.tail.length (c-1) (fl eI L.tail)::A):=by
 have a:=cL (i:=1) hp hn ho hq h
 rw[cD Co,eR] at a
 rw[List.length_tail]
 exact a
end
end
set_option maxHeartbeats 4000000
theorem Pz(b:Nat)(a:Value):HQ 168 [pV b] [Cl b [bT,a] 288] (bT) [Cl b [bT,a] 288]:=by
 refine AC func168 ntmps168 fun g w0 R c=>go [rd 1 6 0 0 1 c] ?_
 exact AD _ [] c
theorem Vk(c:Nat)(X:AB):HT prog 109 [.slice none 0 c] [X] (fun v K=> ∃p c,v= .slice p 0 c∧K= [Sl 3 1 p 0 c (fl eI []),X]):=by
 refine AC func109 ntmps109 fun g w0 R h0=>g0 ?_
 have a:sat g _ (Sl 3 1 none 0 0 (fl eI [])::_):=CP 3 1 h0
 exact en _ [] ⟨_,_,rfl,⟨none,0,rfl,rfl⟩,a⟩
theorem SI(n c:Nat)(L:List Int)(X:AB)(hX:Gv X none n (fl eI L))(hL:L.length=n):HT prog 109 [.slice none n c] [X] (fun v K=> ∃p c,v=.slice p n c∧K= [Sl 3 1 p n c (fl eI L),X]):=by
 have a:n=0∨0<n:=by omega
 rcases a with a|a
 · have d:L= []:=List.eq_nil_of_length_eq_zero om
   subst d
   subst a
   exact Vk c X
 · intro g w F hs
   obtain⟨b,off,h1⟩:=F4 (j:=0) hs rfl hX a
   cases h1
theorem SJ(a:Addr)(p:Option Addr)(hp:p=some a)(n c:Nat)(L:List Int)(X:AB)(hX:Gv X p n (fl eI L))(hL:L.length=n)(hn:n≤1099511627776):HT prog 109 [.slice p n c] [X] (fun v K=> ∃p c,v= .slice p n c∧K= [Sl 3 1 p n c (fl eI L),X]):=by
 refine AC func109 ntmps109 fun g w0 R h0=>go [.s 1 1]<|AS (bF) (Ey (x:=Ot 3) (y:=(Operand.const (.slice none 0 0))) (m:=n) (c:=c) kr underlying134 kr hp kr _)<|g0<|nG (fun q_=> .slice (some ⟨q_,0,none⟩) 0 0) 3 [] h0 (fun b l i=>⟨kd [],?_⟩)
 have j:sat g _ (Sl 3 1 (some ⟨b,0,none⟩) 0 0 (fl eI [])::_):=HO i rfl om
 refine g0 ?_
 refine AH ?_
 refine aG 7 1 (Ot 5) (Ot 6) (iV 0) (some ⟨b,0,none⟩) p 0 0 n c 8 underlying134 j 1 rfl (fl eI L) hX (by rw[Dg Co,hL]) (Aw Co _) n ?_
 intro d e o k
 have f:sat g _ (Sl 3 1 d n e (fl eI L)::_):=sI k
 obtain⟨q,t⟩:=BH f
 refine B1<|g0 ?_
 exact en _ [] ⟨_,_,rfl,⟨d,e,rfl,rfl⟩,f⟩
theorem P0(p:Option Addr)(n c:Nat)(L:List Int)(X:AB)(hX:Gv X p n (fl eI L))(hL:L.length=n)(hn:n≤1099511627776):HT prog 109 [.slice p n c] [X] (fun v K=> ∃p c,v=.slice p n c∧K= [Sl 3 1 p n c (fl eI L),X]):=by
 cases p with
 |none=>exact SI n c L X hX hL
 |some a=>exact SJ a _ rfl n c L X hX hL hn
theorem nU:HT prog 72 [] [] (fun v K=> ∃b,v=pV b∧K= [Sr 288 b []]):=by
 refine AC func72 ntmps72 fun g w0 R h0=>g0<|nP 288 [bT,.slice none 0 0] h0 (fun d j e=> ?_)
 refine g0 ?_
 have f:sat g _ (Vw 3 1 none 0 0 (fl eI [])::_):=mB 3 1 e
 have i:sat g _ (Sr 288 d []::_):=GE (p:=none) (c:=0) (by simp) f.a.t3
 exact en _ [] ⟨_,_,rfl,⟨d,rfl,rfl⟩,i⟩
theorem Gf(b:Nat)(L:List Int):HQ 271 [pV b] [Sr 288 b L] (iV (L.headD 1)) [Sr 288 b L.tail]:=by
 refine AC func271 ntmps271 fun g w0 R h0=> ?_
 obtain⟨J,l,e,B⟩:=UF h0
 have u:=B.a.t3
 obtain⟨M,N⟩:=kH u
 have C:=u.a.t3
 refine g0<|AF call168 (Pz b _) C fun O i=>go [rd 3 3 0 1 1 i,.s 3 5] ?_
 by_cases y:(L.length:Int)=0
 ·
  refine go [.v 3 5 (G9 _ _ y)] ?_
  have hnil_:L= []:=List.eq_nil_of_length_eq_zero om
  have D:sat g _ (Sr 288 b L::_):=GE (p:=l) (c:=e) om i
  exact en (iV 1) [] ⟨_,[Sr 288 b L],rfl,⟨by rw[hnil_];rfl,by rw[hnil_];rfl⟩,D⟩
 obtain⟨f,d,k⟩:=F4 (j:=1) i rfl (XO _ _ _) om
 refine go [.v 3 5 (DR _ _ y),rd 5 3 0 1 1 i,.s 5 4]<|AS (.pointer (some ⟨f,d,none⟩)) (Ft (Ot 18) (Operand.const (iV 0)) l f d 0 L.length e underlying134 1 0 k d) ?_
 obtain⟨o,z⟩:=gX L 0 om
 refine go [.r 5 5 f d [iV o] ⟨Cn (j:=1) i rfl (XO _ _ _) k (Cq Co (j:=0) (v:=iV o) z rfl) d om,trivial⟩,rd 6 4 0 1 1 i,.s 6 5]<|AS (.slice (some ⟨f,(if e=1 then d else d+1),none⟩) (L.length-1) (e-1)) (NF (p:=l) (x:=Ot 25) (lo:=(some (Operand.const (iV 1)))) (hi:=none) (b:=f) (off:=d) (m:=L.length) (c:=e) kr underlying134 1 kr 1 (L.length:Int) 1 L.length kr k (show fe _ _ (Operand.const (iV 1))=_ from by kernel_rfl) rfl om om om om (if e=1 then d else d+1) (sW om) (L.length-1) (e-1) om om _)<|g0<|sP [(1,.slice (some ⟨f,(if e=1 then d else d+1),none⟩) (L.length-1) (e-1))] [bT,.slice (some ⟨f,(if e=1 then d else d+1),none⟩) (L.length-1) (e-1)] i fun E F=>g0 ?_
 have G:=F.a.t3
 obtain⟨t,A⟩: ∃q:Option Addr,q=some ⟨f,(if e=1 then d else d+1),none⟩:=⟨_,rfl⟩
 have H:sat g E [Vw 3 1 t L.tail.length (e-1) (fl eI L.tail),Cl b [bT,.slice t L.tail.length (e-1)] 288,R]:=by
  have h_:=eS k A om (by first|rfl |(split<;>omega)) G
  rw[←A,←List.length_tail] at h_
  exact h_
 have I:sat g _ (Sr 288 b L.tail::_):=GE (p:=t) (c:=(e-1)) (by rw[List.length_tail];omega) H.a.t3
 exact en (iV o) [] ⟨_,_,rfl,⟨congrArg (Value.int .i64) (tV z).symm,rfl⟩,I⟩
theorem eT(b:Nat)(L:List Int):HT prog 105 [pV b] [Sr 288 b L] (fun v K=> ∃j,v=pV j∧K= [Sr 288 j L,Sr 288 b L]):=by
 refine AC func105 ntmps105 fun g w0 R h0=> ?_
 obtain⟨B,d,e,q⟩:=UF h0
 have k:=q.a.t3
 obtain⟨C,D⟩:=kH k
 have s:=k.a.t3
 refine g0<|AF call168 (Pz b _) s fun _ l=> ?_
 have t:=l.a.t3
 refine go [rd 3 3 0 1 1 l]<|cP call109 (P0 d L.length e L (Vw 3 1 d L.length e (fl eI L)) (XO _ _ _) rfl om) t ?_
 rintro v K _ (⟨f,i,rfl,rfl⟩) u
 have m:=CW u
 obtain⟨E,F⟩:=BH m
 refine g0<|nP 288 [bT,.slice f L.length i] m (fun o G x=> ?_)
 refine g0 ?_
 have y:sat g _ (Sr 288 b L::_):=GE (p:=d) (c:=e) om x.b.c.t5
 have z:sat g _ (Vw 3 1 f L.length i (fl eI L)::_):=kG y.b.t4
 have A:sat g _ (Sr 288 o L::_):=GE (p:=f) (c:=i) om z.b.t4
 exact en _ [] ⟨_,_,rfl,⟨o,rfl,rfl⟩,A⟩
structure At where
 at_:Int
 out:Ky
 why:Int
 ans:Int
def DM(a:At):List Value:= [iV a.at_,iV a.out.1,iV a.out.2.1,uV a.out.2.2,iV a.why,iV a.ans]
theorem BW:Enc 6 DM:=⟨fun _=>rfl,fun x v hv=>by simp[DM] at hv;rcases hv with rfl |rfl |rfl |rfl |rfl |rfl<;>rfl⟩
def eU(o:Ky):Int:=if 1≤o.1∧o.1≤3∧0≤o.2.1∧o.2.1≤63∧1≤o.2.2 then 0 else 2
def FH(a:At):Prop:=0≤a.at_∧a.at_≤1099511627776∧eU a.out=0∧1≤a.why∧a.why≤3∧1≤a.ans∧a.ans≤3
instance (a:At):Decidable (FH a):=by unfold FH;infer_instance
def Hs(a:At):Int:=if FH a then 0 else 2
theorem CU{o:Ky}:eU o=0↔1≤o.1∧o.1≤3∧0≤o.2.1∧o.2.1≤63∧1≤o.2.2:=by
 unfold eU
 split
 · exact⟨fun _=> ‹_›,fun _=>rfl⟩
 · exact⟨fun h=>absurd h dc,fun h=>absurd h ‹_›⟩
theorem kgood_iff{o:Ky}:eU o=0↔CT o:=CU
def P1(X:Xs):Option (Nat×Int):=(AJ 0 (As X) 0)[0]?
theorem P2{X:Xs}{i:Nat}{g:Int}(h:P1 X=some (i,g)): ∃v,X[i]? =some (0,g,v):=by
 have d:=(Eg h).2
 rw[Nat.sub_zero] at d
 unfold As at d
 rw[List.getElem?_map,Option.map_eq_some_iff] at d
 obtain⟨⟨a,b,c⟩,h2,e⟩:=d
 simp only[eF,Prod.mk.injEq] at e
 obtain⟨rfl,rfl⟩:=e
 exact⟨c,h2⟩
theorem fre_none{X:Xs}:P1 X=none↔(AJ 0 (As X) 0).length=0:=by
 unfold P1
 rw[List.getElem?_eq_none_iff]
 omega
theorem UG{X:Xs}(h:0<(AJ 0 (As X) 0).length):P1 X=some (((AJ 0 (As X) 0).getD 0 (0,0)).1,((AJ 0 (As X) 0).getD 0 (0,0)).2):=by
 unfold P1
 rw[List.getElem?_eq_getElem h,getD_some (List.getElem?_eq_getElem h)]
def P3(X:Xs)(v:Int):Xs:=match P1 X with
 |none=>X
 |some (i,g)=>X.set i (1,g,v)
def Yg(k:Int)(X:Xs):Ky:=match P1 X with
 |none=>(0,0,0)
 |some (i,g)=>(k,(i:Int),g)
def C2(k:Int)(X:Xs):List Ky:=(AJ 1 (As X) 0).map fun r=>(k,(r.1:Int),r.2)
def FI(X:Xs):Int:=(X.map fun x=>if x.1=1 then x.2.2 else 0).sum
def GF(X:Xs)(o:Ky):Xs:=X.set o.2.1.toNat (Gt o.2.2)
def De(X:Xs)(V:List Int):Prop:=V.length=64∧ ∀(i:Nat) (g v:Int),X[i]? =some (1,g,v)→V[i]? =some v
theorem P4{n:Nat}{g:Int}:De (List.replicate n (0,g,0)) (List.replicate 64 0):=⟨List.length_replicate,fun i a v h=>by
 have:=List.eq_of_mem_replicate (List.mem_of_getElem? h)
 simp only[Prod.mk.injEq] at this
 exact absurd this.1 dc⟩
theorem Ma{X:Xs}{V:List Int}{q:Nat}{g v:Int}(h:De X V)(hq:q<64):De (X.set q (1,g,v)) (V.set q v):=⟨by rw[List.length_set];exact h.1,fun i a u hi=>by
 rcases FG hi with ⟨rfl,b⟩|⟨h1,b⟩
 · simp only[Prod.mk.injEq] at b
   obtain⟨_,rfl,rfl⟩:=b
   exact List.getElem?_set_self (by rw[h.1];exact hq)
 · rw[List.getElem?_set_ne (fun e=>h1 e.symm)]
   exact h.2 i a u b⟩
theorem Vl{X:Xs}{V:List Int}{q:Nat}{e g v:Int}(h:De X V)(he:e≠1):De (X.set q (e,g,v)) V:=⟨h.1,fun i a u hi=>by
 rcases FG hi with ⟨rfl,b⟩|⟨h1,b⟩
 · simp only[Prod.mk.injEq] at b
   exact absurd b.1.symm he
 · exact h.2 i a u b⟩
theorem Nm(z:Int):(Gt z).1≠1:=by
 unfold Gt
 split
 · exact(by decide:(0:Int)≠1)
 · exact(by decide:(2:Int)≠1)
theorem P5{X:Xs}{V:List Int}(o:Ky)(h:De X V):De (GF X o) V:=by
 have a:=Nm o.2.2
 unfold GF
 generalize Gt o.2.2=q at a ⊢
 exact Vl (e:=q.1) (g:=q.2.1) (v:=q.2.2) h a
theorem Yh{X:Xs}{V:List Int}(o:Ky)(u:Int)(h:De X V):De (GF X o) (V.set o.2.1.toNat u):=by
 have h1:=P5 o h
 refine⟨by rw[List.length_set];exact h.1,fun i a v hi=> ?_⟩
 rcases FG (show (X.set o.2.1.toNat (Gt o.2.2))[i]? =some (1,a,v) from hi) with ⟨rfl,b⟩|⟨h3,b⟩
 · exact absurd (congrArg Prod.fst b).symm (Nm _)
 · rw[List.getElem?_set_ne (fun e=>h3 e.symm)]
   exact h1.2 i a v hi
structure Wst where
 F:Xs
 B:Xs
 D:Xs
 q:List Int
 T:List At
 now:Int
def Wst.tab(S:Wst)(k:Int):Xs:=if k=1 then S.F else if k=2 then S.B else S.D
def Wst.put(S:Wst)(k:Int)(X:Xs):Wst:=if k=1 then {S with F:=X} else if k=2 then {S with B:=X} else {S with D:=X}
def Fz(g:Int):Wst:=⟨List.replicate 64 (0,g,0),List.replicate 64 (0,g,0),List.replicate 64 (0,g,0),[],[],0⟩
def KR(S:Wst)(o:Ky):Prop:=CT o∧(As (S.tab o.1))[o.2.1.toNat]? =some (1,o.2.2)
instance (S:Wst) (o:Ky):Decidable (KR S o):=by unfold KR;infer_instance
def DP(k a:Int):Prop:=(k=1∧0≤a∧a≤65535)∨(k=2∧1≤a∧a≤65536)∨(k=3∧1≤a∧a≤1048576)
instance (k a:Int):Decidable (DP k a):=by unfold DP;infer_instance
def GG(S:Wst)(k a:Int):Int:=if k=2∧1048576<FI S.B+a then 4 else if k=3∧1099511627776-a<S.now then 17 else if P1 (S.tab k)=none then 4 else 0
def nV(S:Wst)(k a:Int):Int:=if k=3 then S.now+a else a
def Cs(S:Wst)(k a:Int):Int:=if ¬DP k a then 2 else if GG S k a≠0 then GG S k a else if S.q.headD 1=2 then 15 else if S.q.headD 1=3 then 14 else 0
def CX(S:Wst)(k a:Int):Ky:=if Cs S k a=0 then Yg k (S.tab k) else (0,0,0)
def DY(S:Wst)(k a:Int):Wst:=if ¬DP k a∨GG S k a≠0 then S else if Cs S k a=0 then ({S with q:=S.q.tail}:Wst).put k (P3 (S.tab k) (nV S k a)) else {S with q:=S.q.tail}
def DQ(S:Wst)(o:Ky)(y:Int):Int:=if ¬CT o∨y<1∨3<y then 2 else if ¬KR S o then 5 else if 10000≤S.T.length then 4 else 0
def D3(S:Wst)(o:Ky)(y:Int):Int:=if DQ S o y=0 then S.q.headD 1 else 0
def C7(S:Wst)(o:Ky)(y:Int):Wst:=if DQ S o y≠0 then S else if S.q.headD 1=1 then ({S with q:=S.q.tail,T:=S.T++ [⟨S.now,o,y,S.q.headD 1⟩]}:Wst).put o.1 (GF (S.tab o.1) o) else {S with q:=S.q.tail,T:=S.T++ [⟨S.now,o,y,S.q.headD 1⟩]}
section
def bW(A:List AM):Prop:= ∀s∈A,0≤s.1∧s.1≤2∧1≤s.2∧s.2≤4294967295
def O6(X:Xs):Prop:= ∀x∈X,x.1=1→0≤x.2.2∧x.2.2≤65536
structure WOk (S:Wst):Prop where
 fl:S.F.length=64
 bl:S.B.length=64
 dl:S.D.length=64
 fk:bW (As S.F)
 bk:bW (As S.B)
 dk:bW (As S.D)
 bb:O6 S.B
 qb: ∀a∈S.q,1≤a∧a≤3
 qn:S.q.length≤2000
 nl:0≤S.now
 nh:S.now≤1099511627776
 ta: ∀a∈S.T,a.at_≤S.now
 tp: ∀a∈S.T,FH a
 tn:S.T.length≤10000
section
variable {X : Xs} {S : Wst}
theorem UH{q:Nat}{y:Fl}(h:bW (As X))(hy:0≤y.1∧y.1≤2∧1≤y.2.1∧y.2.1≤4294967295):bW (As (X.set q y)):=by
 rw[Nj]
 intro s hs
 rcases List.mem_or_eq_of_mem_set hs with h1|rfl
 · exact h s h1
 · exact hy
theorem Nn{n:Nat}{g:Int}(h:1≤g∧g≤4294967295):bW (As (List.replicate n (0,g,0))):=by
 intro s hs
 unfold As at hs
 rw[List.map_replicate] at hs
 rw[List.eq_of_mem_replicate hs]
 exact⟨by show (0:Int)≤0;decide,by show (0:Int)≤2;decide,h.1,h.2⟩
theorem nW{z:Int}(h:1≤z∧z≤4294967295):0≤(Gt z).1∧(Gt z).1≤2∧1≤(Gt z).2.1∧(Gt z).2.1≤4294967295:=by
 unfold Gt
 split
 · exact⟨by show (0:Int)≤0;decide,by show (0:Int)≤2;decide,by show 1≤z+1;omega,by show z+1≤4294967295;omega⟩
 · exact⟨by show (0:Int)≤2;decide,by show (2:Int)≤2;decide,h.1,h.2⟩
theorem kV{i:Nat}{s:AM}(h:(As X)[i]? =some s): ∃v,X[i]? =some (s.1,s.2,v):=by
 unfold As at h
 rw[List.getElem?_map,Option.map_eq_some_iff] at h
 obtain⟨⟨a,b,c⟩,h2,h3⟩:=h
 subst h3
 exact⟨c,h2⟩
theorem Np(X:Xs)(v:Int):(P3 X v).length=X.length:=by
 unfold P3
 split
 · rfl
 · exact List.length_set
theorem Ht(X:Xs)(o:Ky):(GF X o).length=X.length:=List.length_set
theorem SK(h:bW (As X))(v:Int):bW (As (P3 X v)):=by
 unfold P3
 split
 · exact h
 · rename_i i g hf
   obtain⟨u,hu⟩:=P2 hf
   have:=h _ (List.mem_of_getElem? (nL hu))
   exact UH h ⟨by show (0:Int)≤1;decide,by show (1:Int)≤2;decide,this.2.2.1,this.2.2.2⟩
theorem SL(h:bW (As X)){o:Ky}(ho:(As X)[o.2.1.toNat]? =some (1,o.2.2)):bW (As (GF X o)):=by
 have:=h _ (List.mem_of_getElem? ho)
 exact UH h (nW ⟨this.2.2.1,this.2.2.2⟩)
theorem eV(h:O6 X){v:Int}(hv:0≤v∧v≤65536):O6 (P3 X v):=by
 unfold P3
 split
 · exact h
 · intro x hx h1
   rcases List.mem_or_eq_of_mem_set hx with hx|rfl
   · exact h x hx h1
   · exact hv
theorem UI(h:O6 X)(o:Ky):O6 (GF X o):=fun x hx a=>by
 rcases List.mem_or_eq_of_mem_set hx with hx|rfl
 · exact h x hx a
 · exact absurd a (Nm _)
theorem UJ{n:Nat}{g:Int}:O6 (List.replicate n (0,g,0)):=fun x hx a=>by
 rw[List.eq_of_mem_replicate hx] at a
 exact absurd a (by show ¬(0:Int)=1;decide)
theorem UK: ∀ {X:Xs},O6 X→0≤FI X∧FI X≤65536*(X.length:Int)
 | [],_=>⟨Int.le_refl _,by show (0:Int)≤_;simp⟩
 |x::X,h=>by
  obtain⟨h1,h2⟩:=UK (X:=X) fun y hy=>h y (List.mem_cons_of_mem _ hy)
  have h3:=h x List.mem_cons_self
  unfold FI at h1 h2 ⊢
  rw[List.map_cons,List.sum_cons,List.length_cons]
  by_cases hx:x.1=1
  · rw[if_pos hx]
    have:=h3 hx
    omega
  · rw[if_neg hx]
    omega
theorem KS{q:List Int}(h: ∀a∈q,1≤a∧a≤3):1≤q.headD 1∧q.headD 1≤3:=by
 cases q with
 |nil=>decide
 |cons a q=>exact h a List.mem_cons_self
theorem eW{q:List Int}(h: ∀a∈q,1≤a∧a≤3): ∀a∈q.tail,1≤a∧a≤3:=fun a ha=>h a (List.mem_of_mem_tail ha)
theorem eX{g:Int}(h:1≤g∧g≤4294967295):WOk (Fz g) where
 fl:=List.length_replicate
 bl:=List.length_replicate
 dl:=List.length_replicate
 fk:=Nn h
 bk:=Nn h
 dk:=Nn h
 bb:=UJ
 qb a ha:=by cases ha
 qn:=Nat.zero_le _
 nl:=Int.le_refl _
 nh:=(by decide:(0:Int)≤1099511627776)
 ta a ha:=by cases ha
 tp a ha:=by cases ha
 tn:=Nat.zero_le _
theorem SM(h:WOk S):WOk {S with q:=S.q.tail}:= {h with qb:=eW h.qb,qn:=by show S.q.tail.length≤2000;rw[List.length_tail];have:=h.qn;omega}
theorem nX{k a:Int}(h:DP k a):k=1∨k=2∨k=3:=by
 unfold DP at h
 omega
theorem tW(S:Wst)(X:Xs):S.put 1 X= {S with F:=X}:=rfl
theorem tX(S:Wst)(X:Xs):S.put 2 X= {S with B:=X}:=rfl
theorem tY(S:Wst)(X:Xs):S.put 3 X= {S with D:=X}:=rfl
theorem tZ(S:Wst):S.tab 1=S.F:=rfl
theorem uA(S:Wst):S.tab 2=S.B:=rfl
theorem uB(S:Wst):S.tab 3=S.D:=rfl
theorem ED(h:WOk S)(k a:Int):WOk (DY S k a):=by
 unfold DY
 split
 · exact h
 · rename_i hc
   split
   · have hg:DP k a:=by
      rcases Classical.em (DP k a) with q|q
      · exact q
      · exact absurd (.inl q) hc
     have b:=SM h
     rcases nX hg with rfl |rfl |rfl
     · rw[tW,tZ]
       exact {b with fl:=(Np _ _).trans h.fl,fk:=SK h.fk _}
     · rw[tX,uA]
       refine {b with bl:=(Np _ _).trans h.bl,bk:=SK h.bk _,bb:=eV h.bb ?_}
       unfold nV
       rw[if_neg dc]
       unfold DP at hg
       omega
     · rw[tY,uB]
       exact {b with dl:=(Np _ _).trans h.dl,dk:=SK h.dk _}
   · exact SM h
theorem P6{o:Ky}{y:Int}(h:DQ S o y=0):CT o∧1≤y∧y≤3∧KR S o∧S.T.length<10000:=by
 unfold DQ at h
 split at h
 · exact absurd h dc
 · rename_i h1
   split at h
   · exact absurd h dc
   · rename_i h2
     split at h
     · exact absurd h dc
     · simp only[not_or,Decidable.not_not] at h1 h2
       exact⟨h1.1,by omega,by omega,h2,by omega⟩
theorem Nq{o:Ky}(h:CT o):o.1=1∨o.1=2∨o.1=3:=by
 have:=h.1
 have:=h.2.1
 omega
theorem eY(h:WOk S){a:At}(ha:a.at_=S.now)(hp:FH a)(hn:S.T.length<10000):WOk {S with q:=S.q.tail,T:=S.T++ [a]}:=
 {SM h with
  ta:=fun b hb=>by
   rcases List.mem_append.1 hb with hb|hb
   · exact h.ta b hb
   · rw[List.mem_singleton.1 hb,ha];exact Int.le_refl _
  tp:=fun b hb=>by
   rcases List.mem_append.1 hb with hb|hb
   · exact h.tp b hb
   · rw[List.mem_singleton.1 hb];exact hp
  tn:=by show (S.T++ [a]).length≤10000;rw[List.length_append];exact hn}
theorem eZ(h:WOk S){o:Ky}{y:Int}(he:DQ S o y=0):FH ⟨S.now,o,y,S.q.headD 1⟩:=by
 obtain⟨h1,h2,h3,_,_⟩:=P6 he
 have:=KS h.qb
 exact⟨h.nl,h.nh,kgood_iff.2 h1,h2,h3,this.1,this.2⟩
theorem Gg(h:WOk S)(o:Ky)(y:Int):WOk (C7 S o y):=by
 unfold C7
 split
 · exact h
 · rename_i hc
   have he:DQ S o y=0:=Decidable.not_not.1 hc
   obtain⟨h1,h2,h3,h4,h5⟩:=P6 he
   have b:=eY (a:=⟨S.now,o,y,S.q.headD 1⟩) h rfl (eZ h he) h5
   split
   · obtain⟨_,ht⟩:=h4
     obtain⟨k,i,g⟩:=o
     rcases Nq h1 with hk|hk|hk<;>(have hk':k=_:=hk;subst hk')
     · rw[tW,tZ]
       exact {b with fl:=(Ht _ _).trans h.fl,fk:=SL h.fk ht}
     · rw[tX,uA]
       exact {b with bl:=(Ht _ _).trans h.bl,bk:=SL h.bk ht,bb:=UI h.bb _}
     · rw[tY,uB]
       exact {b with dl:=(Ht _ _).trans h.dl,dk:=SL h.dk ht}
   · exact b
end
end
section
def DC(X:Xs)(i:Nat):Nat:=((AJ 1 (As X) 0).getD i (0,0)).1
def EW(X:Xs)(i:Nat):Int:=((AJ 1 (As X) 0).getD i (0,0)).2
def LQ(X:Xs)(q:Nat):Int:=(X.getD q (0,0,0)).2.2
theorem UL{X:Xs}{i:Nat}(h:i<(AJ 1 (As X) 0).length):(As X)[DC X i]? =some (1,EW X i):=To h
theorem uC{X:Xs}{i:Nat}(h:i<(AJ 1 (As X) 0).length):DC X i<X.length:=by
 have:=(List.getElem?_eq_some_iff.1 (UL h)).1
 rwa [E1] at this
theorem fA{X:Xs}{V:List Int}{q:Nat}{g v:Int}(hV:De X V)(h:(As X)[q]? =some (1,g))(hv:V[q]? =some v):v=LQ X q:=by
 obtain⟨u,hu⟩:=kV h
 have a:=hV.2 q g u hu
 rw[hv] at a
 unfold LQ
 rw[getD_some hu]
 exact Option.some.inj a
def Ii(X:Xs)(i:Nat):Int:=((AJ 1 (As X) 0).take i).foldl (fun s r=>s+LQ X r.1) 0
theorem UM{X:Xs}{i:Nat}(h:i<(AJ 1 (As X) 0).length):Ii X (i+1)=Ii X i+LQ X (DC X i):=by
 unfold Ii DC
 rw[List.take_add_one,List.getElem?_eq_getElem h,List.foldl_append,getD_some (List.getElem?_eq_getElem h)]
 rfl
theorem Yi(x:Fl)(X:Xs)(q:Nat):LQ (x::X) (q+1)=LQ X q:=rfl
theorem UN: ∀(X Y:Xs) (k:Nat) (s:Int),(∀q,LQ Y (k+q)=LQ X q)→(AJ 1 (As X) k).foldl (fun s r=>s+LQ Y r.1) s=s+FI X
 | [],Y,k,s,_=>by simp[AJ,As,FI]
 |x::X,Y,k,s,h=>by
  have a:=UN X Y (k+1)
  have b: ∀q,LQ Y (k+1+q)=LQ X q:=fun q=>by
   have:=h (q+1)
   rw[Yi] at this
   rw[←this]
   congr 1
   omega
  show (AJ 1 (eF x::As X) k).foldl _ s=_
  have h0:LQ Y k=x.2.2:=h 0
  by_cases hx:x.1=1
  · have e:AJ 1 (eF x::As X) k=(k,x.2.1)::AJ 1 (As X) (k+1):=by
     show (if (eF x).1=1 then _ else _)=_
     rw[if_pos (show (eF x).1=1 from hx)]
     rfl
    rw[e,List.foldl_cons,a _ b,h0]
    unfold FI
    rw[List.map_cons,List.sum_cons,if_pos hx]
    omega
  · have e:AJ 1 (eF x::As X) k=AJ 1 (As X) (k+1):=by
     show (if (eF x).1=1 then _ else _)=_
     rw[if_neg (show ¬(eF x).1=1 from hx)]
    rw[e,a _ b]
    unfold FI
    rw[List.map_cons,List.sum_cons,if_neg hx]
    omega
theorem Yj(X:Xs):Ii X (AJ 1 (As X) 0).length=FI X:=by
 unfold Ii
 rw[List.take_length,UN X X 0 0 (fun q=>by rw[Nat.zero_add])]
 omega
theorem Yk{X:Xs}(h:O6 X){q:Nat}{g:Int}(hq:(As X)[q]? =some (1,g)):0≤LQ X q∧LQ X q≤65536:=by
 obtain⟨u,hu⟩:=kV hq
 unfold LQ
 rw[getD_some hu]
 exact h _ (List.mem_of_getElem? hu) rfl
theorem UO{X:Xs}(h:O6 X): ∀i:Nat,i≤(AJ 1 (As X) 0).length→0≤Ii X i∧Ii X i≤65536*(i:Int)
 |0,_=>⟨Int.le_refl _,Int.le_refl _⟩
 |i+1,hi=>by
  have h1:=UO h i om
  have h2:=Yk h (UL (X:=X) (i:=i) om)
  rw[UM om]
  omega
theorem Mb{X:Xs}{k:Int}{i:Nat}(h:i<(AJ 1 (As X) 0).length):(C2 k X).take i++ [(k,(DC X i:Int),EW X i)]=(C2 k X).take (i+1):=by
 have h1:(AJ 1 (As X) 0)[i]? =some (DC X i,EW X i):=by
  unfold DC EW
  rw[List.getElem?_eq_getElem h,getD_some (List.getElem?_eq_getElem h)]
 have h2:(C2 k X)[i]? =some (k,(DC X i:Int),EW X i):=by
  unfold C2
  rw[List.getElem?_map,h1]
  rfl
 rw[List.take_add_one,h2]
 rfl
theorem GH(k:Int)(X:Xs):(C2 k X).length=(AJ 1 (As X) 0).length:=List.length_map _
def nY(X:Xs):Int:=if P1 X=none then 4 else 0
def F0(X:Xs)(v:Int):Int:=if 1048576<FI X+v then 4 else nY X
def LR(X:Xs)(v:Int):Xs:=if F0 X v=0 then P3 X v else X
def Dx(X:Xs)(v:Int):Ky:=if F0 X v=0 then Yg 2 X else (0,0,0)
def Fb(X:Xs)(t now:Int):Int:=if 1099511627776-t<now then 17 else nY X
def LS(X:Xs)(t now:Int):Xs:=if Fb X t now=0 then P3 X (now+t) else X
def Dy(X:Xs)(t now:Int):Ky:=if Fb X t now=0 then Yg 3 X else (0,0,0)
section
variable {X : Xs} {v t now : Int}
theorem Mc(h:(Bn (As X)).2.2≠0):nY X=4∧(Bn (As X)).2.2=4∧Ap (As X)=As X:=by
 rcases Nat.eq_zero_or_pos (AJ 0 (As X) 0).length with a|a
 · exact⟨if_pos (fre_none.2 a),by rw[(Dj a).1],(Dj a).2⟩
 · exact absurd (by rw[(CQ a).1]) h
theorem Md(h:(Bn (As X)).2.2=0):nY X=0∧ ∃i g u,P1 X=some (i,g)∧X[i]? =some (0,g,u)∧(Bn (As X)).1=(i:Int)∧(Bn (As X)).2.1=g∧Ap (As X)=As (X.set i (1,g,v)):=by
 rcases Nat.eq_zero_or_pos (AJ 0 (As X) 0).length with a|a
 · rw[(Dj a).1] at h
   exact absurd h dc
 · have b:=UG a
   obtain⟨u,hu⟩:=P2 b
   refine⟨if_neg (by rw[b];exact fun q=>nomatch q),_,_,u,b,hu,by rw[(CQ a).1],by rw[(CQ a).1],?_⟩
   rw[(CQ a).2,Nj]
theorem Yl(h:1048576<FI X+v):F0 X v=4∧Dx X v=(0,0,0)∧LR X v=X:=by
 have e:F0 X v=4:=if_pos h
 exact⟨e,if_neg (by rw[e];decide),if_neg (by rw[e];decide)⟩
theorem Ym(h: ¬1048576<FI X+v)(ht:nY X=4):F0 X v=4∧Dx X v=(0,0,0)∧LR X v=X:=by
 have e:F0 X v=4:=(if_neg h).trans ht
 exact⟨e,if_neg (by rw[e];decide),if_neg (by rw[e];decide)⟩
theorem nZ{i:Nat}{g:Int}(h: ¬1048576<FI X+v)(hf:P1 X=some (i,g)):F0 X v=0∧Dx X v=(2,(i:Int),g)∧LR X v=X.set i (1,g,v):=by
 have e:F0 X v=0:=(if_neg h).trans (if_neg (by rw[hf];exact fun q=>nomatch q))
 refine⟨e,(if_pos e).trans ?_,(if_pos e).trans ?_⟩
 · unfold Yg;rw[hf]
 · unfold P3;rw[hf]
theorem Yn(h:1099511627776-t<now):Fb X t now=17∧Dy X t now=(0,0,0)∧LS X t now=X:=by
 have e:Fb X t now=17:=if_pos h
 exact⟨e,if_neg (by rw[e];decide),if_neg (by rw[e];decide)⟩
theorem Yo(h: ¬1099511627776-t<now)(ht:nY X=4):Fb X t now=4∧Dy X t now=(0,0,0)∧LS X t now=X:=by
 have e:Fb X t now=4:=(if_neg h).trans ht
 exact⟨e,if_neg (by rw[e];decide),if_neg (by rw[e];decide)⟩
theorem oA{i:Nat}{g:Int}(h: ¬1099511627776-t<now)(hf:P1 X=some (i,g)):Fb X t now=0∧Dy X t now=(3,(i:Int),g)∧LS X t now=X.set i (1,g,now+t):=by
 have e:Fb X t now=0:=(if_neg h).trans (if_neg (by rw[hf];exact fun q=>nomatch q))
 refine⟨e,(if_pos e).trans ?_,(if_pos e).trans ?_⟩
 · unfold Yg;rw[hf]
 · unfold P3;rw[hf]
theorem oB{V:List Int}{i:Nat}{g:Int}(h:X.length=64∧O6 X∧De X V)(hi:i<64)(hv:0≤v∧v≤65536):(X.set i (1,g,v)).length=64∧O6 (X.set i (1,g,v))∧De (X.set i (1,g,v)) (V.set i v):=
 ⟨List.length_set.trans h.1,fun x hx h1=>by
  rcases List.mem_or_eq_of_mem_set hx with hx|rfl
  · exact h.2.1 x hx h1
  · exact hv,Ma h.2.2 hi⟩
theorem oC{V:List Int}{i:Nat}{g:Int}(h:X.length=64∧De X V)(hi:i<64):(X.set i (1,g,v)).length=64∧De (X.set i (1,g,v)) (V.set i v):=⟨List.length_set.trans h.1,Ma h.2 hi⟩
theorem Vm{V:List Int}{o:Ky}{q:Nat}{u:Int}(h:De X V)(hq:o.2.1=(q:Int)):De (GF X o) (V.set q u):=by
 have:=Yh o u h
 rwa [hq,Int.toNat_natCast] at this
theorem oD{V:List Int}{o:Ky}{q:Nat}{u:Int}(h:X.length=64∧O6 X∧De X V)(hq:o.2.1=(q:Int)):(GF X o).length=64∧O6 (GF X o)∧De (GF X o) (V.set q u):=⟨(Ht X o).trans h.1,UI h.2.1 o,Vm h.2.2 hq⟩
theorem oE{V:List Int}{o:Ky}(h:X.length=64∧De X V):(GF X o).length=64∧De (GF X o) V:=⟨(Ht X o).trans h.1,P5 o h.2⟩
theorem Yp(n:Nat)(g v:Int):List.replicate n (0,g)=As (List.replicate n (0,g,v)):=by
 unfold As
 rw[List.map_replicate]
 rfl
theorem Me(X:Xs)(o:Ky){q:Nat}(h:o.2.1=(q:Int)):Ak (As X) q o.2.2=As (GF X o):=by
 unfold GF
 rw[h,Int.toNat_natCast]
 exact Px X q o.2.2
end
theorem Vn{α:Type}{L:List α}{k:Nat}{x:α}(h:L[k]? =some x):(L.eraseIdx k).length+1=L.length:=by
 have:=(List.getElem?_eq_some_iff.1 h).1
 rw[List.length_eraseIdx,if_pos this]
 omega
theorem uD{a:Ky}{x y z:Int}(h:a.1=x∧a.2.1=y∧a.2.2=z):a=(x,y,z):=by
 obtain⟨a,b,c⟩:=a
 obtain⟨rfl,rfl,rfl⟩:=h
 rfl
theorem Yq{a:Ky}{x y z:Int}(h: ¬(a.1=x∧a.2.1=y∧a.2.2=z)):a≠(x,y,z):=fun e=>h (by subst e;exact⟨rfl,rfl,rfl⟩)
theorem Yr{L:List Ky}{i:Nat}{a o:Ky}(h: ∀b∈L.take i,b≠o)(ha:L[i]? =some a)(hn:a≠o): ∀b∈L.take (i+1),b≠o:=fun b hb=>by
 rw[List.take_add_one,ha] at hb
 rcases List.mem_append.1 hb with hb|hb
 · exact h b hb
 · rw[Option.toList_some,List.mem_singleton] at hb
   rw[hb]
   exact hn
theorem oG{L:List Ky}{i:Nat}{o:Ky}(h: ∀b∈L.take i,b≠o)(hi:L.length≤i): ¬o∈L:=fun ho=>h o (by rw[List.take_of_length_le hi];exact ho) rfl
theorem yQ{V:List Int}{n:Nat}(h:V.length=n):V=(List.range n).map fun i=>V.getD i 0:=by
 apply List.ext_getElem?
 intro i
 rw[List.getElem?_map]
 rcases Nat.lt_or_ge i n with hi|hi
 · rw[List.getElem?_range hi,List.getElem?_eq_getElem om]
   show _=some (V.getD i 0)
   rw[getD_some (List.getElem?_eq_getElem om)]
 · rw[List.getElem?_eq_none om,List.getElem?_eq_none (by rw[List.length_range];exact hi)]
   rfl
theorem oH{V:List Int}(h:V.length=64):fl eI V= [iV (V.getD 0 0),iV (V.getD 1 0),iV (V.getD 2 0),iV (V.getD 3 0),iV (V.getD 4 0),iV (V.getD 5 0),iV (V.getD 6 0),iV (V.getD 7 0),iV (V.getD 8 0),iV (V.getD 9 0),iV (V.getD 10 0),iV (V.getD 11 0),iV (V.getD 12 0),iV (V.getD 13 0),iV (V.getD 14 0),iV (V.getD 15 0),iV (V.getD 16 0),iV (V.getD 17 0),iV (V.getD 18 0),iV (V.getD 19 0),iV (V.getD 20 0),iV (V.getD 21 0),iV (V.getD 22 0),iV (V.getD 23 0),iV (V.getD 24 0),iV (V.getD 25 0),iV (V.getD 26 0),iV (V.getD 27 0),iV (V.getD 28 0),iV (V.getD 29 0),iV (V.getD 30 0),iV (V.getD 31 0),iV (V.getD 32 0),iV (V.getD 33 0),iV (V.getD 34 0),iV (V.getD 35 0),iV (V.getD 36 0),iV (V.getD 37 0),iV (V.getD 38 0),iV (V.getD 39 0),iV (V.getD 40 0),iV (V.getD 41 0),iV (V.getD 42 0),iV (V.getD 43 0),iV (V.getD 44 0),iV (V.getD 45 0),iV (V.getD 46 0),iV (V.getD 47 0),iV (V.getD 48 0),iV (V.getD 49 0),iV (V.getD 50 0),iV (V.getD 51 0),iV (V.getD 52 0),iV (V.getD 53 0),iV (V.getD 54 0),iV (V.getD 55 0),iV (V.getD 56 0),iV (V.getD 57 0),iV (V.getD 58 0),iV (V.getD 59 0),iV (V.getD 60 0),iV (V.getD 61 0),iV (V.getD 62 0),iV (V.getD 63 0)]:=by
 have h1:fl eI V=fl eI ((List.range 64).map fun i=>V.getD i 0):=congrArg _ (yQ h)
 exact h1.trans kr
end
section
section
variable {a b c : Value} {V : List Int} {q k : Nat} {v u : Int}
theorem yT{V:List Int}{q:Nat}{v:Int}(h:V[q]? =some v):(fl eI V)[q]? =some (.int .i64 v):=by
 have:=Cq Co (j:=0) (v:= .int .i64 v) h rfl
 simpa using this
theorem oK: ∀(V:List Int) (q:Nat) (u:Int),(fl eI V).set q (.int .i64 u)=fl eI (V.set q u)
 | [],q,u=>rfl
 |x::V,0,u=>rfl
 |x::V,q+1,u=>by
  show (Value.int .i64 x)::(fl eI V).set q _=(Value.int .i64 x)::fl eI (V.set q u)
  rw[oK V q u]
theorem yU(h:V[q]? =some v)(hk:k=3+q):(a::b::c::fl eI V)[k]? =some (.int .i64 v):=by
 subst hk
 rw[Nat.add_comm,List.getElem?_cons_succ,List.getElem?_cons_succ,List.getElem?_cons_succ]
 exact yT h
theorem uE:(a::fl eI V).length=1+V.length:=by rw[List.length_cons,Dg Co];omega
theorem P7:(a::b::c::fl eI V).length=3+V.length:=by rw[List.length_cons,List.length_cons,List.length_cons,Dg Co];omega
theorem uF(hk:k=1+q)(_:q<V.length):CL (a::fl eI V) [(k,iV u)]=a::fl eI (V.set q u):=by
 subst hk
 simp only[CL]
 rw[Nat.add_comm,List.set_cons_succ,oK]
theorem kW(hk:k=3+q)(_:q<V.length):CL (a::b::c::fl eI V) [(k,iV u)]=a::b::c::fl eI (V.set q u):=by
 subst hk
 simp only[CL]
 rw[Nat.add_comm,List.set_cons_succ,List.set_cons_succ,List.set_cons_succ,oK]
end
def Pl(b:Nat)(X:Xs):AB:=fun h=> ∃x:Nat×List Int,(X.length=64∧O6 X∧De X x.2)∧Aj [Cl b (.pointer (some ⟨x.1,0,none⟩):: .int .i64 64:: .int .i64 1048576::fl eI x.2) 283,Tb x.1 64 (As X)] h
def Dk(b:Nat)(X:Xs):AB:=fun h=> ∃x:Nat×List Int,(X.length=64∧De X x.2)∧Aj [Cl b (.pointer (some ⟨x.1,0,none⟩)::fl eI x.2) 286,Tb x.1 64 (As X)] h
def Lg(b:Nat)(T:List At):AB:=fun h=> ∃x:Option Addr×Nat×Nat,T.length≤10000∧Aj [Cl b [.slice x.1 T.length x.2.1,.map (some x.2.2)] 117,Sl 50 6 x.1 T.length x.2.1 (fl DM T),Ml 3 x.2.2 T.length] h
def Wd(b:Nat)(S:Wst):AB:=fun h=> ∃x:Nat×Nat×Nat×Nat×Nat,WOk S∧Aj [Cl b [.nilIface,.iface 179 (.pointer (some ⟨x.1,0,none⟩)),.iface 182 (.pointer (some ⟨x.2.1,0,none⟩)),.iface 185 (.pointer (some ⟨x.2.2.1,0,none⟩)),.pointer (some ⟨x.2.2.2.1,0,none⟩),.pointer (some ⟨x.2.2.2.2,0,none⟩),iV S.now] 113,
 Fd x.1 64 S.F,Pl x.2.1 S.B,Dk x.2.2.1 S.D,Sr 288 x.2.2.2.1 S.q,Lg x.2.2.2.2 S.T] h
section
variable {g w : World} {L : List AB} {b s : Nat} {X Y : Xs} {V : List Int} {S : Wst} {T : List At} {A : List AM} {p : Option Addr} {c m n : Nat}
theorem Fc(h:sat g w (Pl b X::L)): ∃s V,(X.length=64∧O6 X∧De X V)∧sat g w (Cl b (.pointer (some ⟨s,0,none⟩):: .int .i64 64:: .int .i64 1048576::fl eI V) 283::Tb s 64 (As X)::L):=by
 obtain⟨⟨s,V⟩,h1,h2⟩:=Af (X:=Nat×List Int) (p:=fun x=>X.length=64∧O6 X∧De X x.2) (B:=fun x=>Aj [Cl b (.pointer (some ⟨x.1,0,none⟩):: .int .i64 64:: .int .i64 1048576::fl eI x.2) 283,Tb x.1 64 (As X)]) h (fun k hk=>hk)
 exact⟨s,V,h1,AK h2⟩
theorem Ct(h1:X.length=64∧O6 X∧De X V)(hA:A=As X)(h:sat g w (Cl b (.pointer (some ⟨s,0,none⟩):: .int .i64 64:: .int .i64 1048576::fl eI V) 283::Tb s 64 A::L)):sat g w (Pl b X::L):=by
 subst hA
 exact AI (AO (K:= [Cl b (.pointer (some ⟨s,0,none⟩):: .int .i64 64:: .int .i64 1048576::fl eI V) 283,Tb s 64 (As X)]) h) fun k hk=>⟨(s,V),h1,hk⟩
theorem Jl(h:sat g w (Dk b X::L)): ∃s V,(X.length=64∧De X V)∧sat g w (Cl b (.pointer (some ⟨s,0,none⟩)::fl eI V) 286::Tb s 64 (As X)::L):=by
 obtain⟨⟨s,V⟩,h1,h2⟩:=Af (X:=Nat×List Int) (p:=fun x=>X.length=64∧De X x.2) (B:=fun x=>Aj [Cl b (.pointer (some ⟨x.1,0,none⟩)::fl eI x.2) 286,Tb x.1 64 (As X)]) h (fun k hk=>hk)
 exact⟨s,V,h1,AK h2⟩
theorem Dz(h1:X.length=64∧De X V)(hA:A=As X)(h:sat g w (Cl b (.pointer (some ⟨s,0,none⟩)::fl eI V) 286::Tb s 64 A::L)):sat g w (Dk b X::L):=by
 subst hA
 exact AI (AO (K:= [Cl b (.pointer (some ⟨s,0,none⟩)::fl eI V) 286,Tb s 64 (As X)]) h) fun k hk=>⟨(s,V),h1,hk⟩
theorem Hu(h:sat g w (Lg b T::L)): ∃p c m,T.length≤10000∧sat g w (Cl b [.slice p T.length c,.map (some m)] 117::Sl 50 6 p T.length c (fl DM T)::Ml 3 m T.length::L):=by
 obtain⟨⟨p,c,m⟩,a,d⟩:=Af (X:=Option Addr×Nat×Nat) (p:=fun _=>T.length≤10000) (B:=fun x=>Aj [Cl b [.slice x.1 T.length x.2.1,.map (some x.2.2)] 117,Sl 50 6 x.1 T.length x.2.1 (fl DM T),Ml 3 x.2.2 T.length]) h (fun k hk=>by
  obtain⟨x,a,d⟩:=hk
  exact⟨x,a,d⟩)
 exact⟨p,c,m,a,AK d⟩
theorem EP(h1:T.length≤10000)(hn:n=T.length)(h:sat g w (Cl b [.slice p n c,.map (some m)] 117::Sl 50 6 p n c (fl DM T)::Ml 3 m n::L)):sat g w (Lg b T::L):=by
 subst hn
 exact AI (AO (K:= [Cl b [.slice p T.length c,.map (some m)] 117,Sl 50 6 p T.length c (fl DM T),Ml 3 m T.length]) h) fun k hk=>⟨(p,c,m),h1,hk⟩
theorem B8(h:sat g w (Wd b S::L)): ∃f p d s l,WOk S∧sat g w (Cl b [.nilIface,.iface 179 (.pointer (some ⟨f,0,none⟩)),.iface 182 (.pointer (some ⟨p,0,none⟩)),.iface 185 (.pointer (some ⟨d,0,none⟩)),pV s,pV l,iV S.now] 113::Fd f 64 S.F::Pl p S.B::Dk d S.D::Sr 288 s S.q::Lg l S.T::L):=by
 obtain⟨⟨f,p,d,s,l⟩,h1,h2⟩:=Af (X:=Nat×Nat×Nat×Nat×Nat) (p:=fun _=>WOk S) (B:=fun x=>Aj [Cl b [.nilIface,.iface 179 (.pointer (some ⟨x.1,0,none⟩)),.iface 182 (.pointer (some ⟨x.2.1,0,none⟩)),.iface 185 (.pointer (some ⟨x.2.2.1,0,none⟩)),.pointer (some ⟨x.2.2.2.1,0,none⟩),.pointer (some ⟨x.2.2.2.2,0,none⟩),iV S.now] 113,
  Fd x.1 64 S.F,Pl x.2.1 S.B,Dk x.2.2.1 S.D,Sr 288 x.2.2.2.1 S.q,Lg x.2.2.2.2 S.T]) h (fun k hk=>hk)
 exact⟨f,p,d,s,l,h1,AK h2⟩
theorem AY{f p d s l:Nat}(h1:WOk S)(h:sat g w (Cl b [.nilIface,.iface 179 (.pointer (some ⟨f,0,none⟩)),.iface 182 (.pointer (some ⟨p,0,none⟩)),.iface 185 (.pointer (some ⟨d,0,none⟩)),pV s,pV l,iV S.now] 113::Fd f 64 S.F::Pl p S.B::Dk d S.D::Sr 288 s S.q::Lg l S.T::L)):sat g w (Wd b S::L):=
 AI (AO (K:= [Cl b [.nilIface,.iface 179 (.pointer (some ⟨f,0,none⟩)),.iface 182 (.pointer (some ⟨p,0,none⟩)),.iface 185 (.pointer (some ⟨d,0,none⟩)),pV s,pV l,iV S.now] 113,Fd f 64 S.F,Pl p S.B,Dk d S.D,Sr 288 s S.q,Lg l S.T]) h) fun k hk=>⟨(f,p,d,s,l),h1,hk⟩
theorem kX{j:Nat}(h:sat g w L)(hj:L[j]? =some (Wd b S)):WOk S:=D9 h hj fun _ ha _=>by
 obtain⟨x,h1,_⟩:=ha
 exact h1
end
end
theorem Gh(b s:Nat)(Y:List Value):HQ 171 [pV b] [Cl b ((pV s)::Y) 283] (bT) [Cl b ((pV s)::Y) 283]:=by
 refine AC func171 ntmps171 fun g w0 R a=>go [rd 1 6 0 0 1 a] ?_
 exact AD _ [] a
theorem oL{g w:World}{L:List AB}{b s:Nat}{gn:Int}(h:sat g w (Cl b [pV s,iV 64,iV 1048576,iV 0,iV 0,iV 0,iV 0,iV 0,iV 0,iV 0,iV 0,iV 0,iV 0,iV 0,iV 0,iV 0,iV 0,iV 0,iV 0,iV 0,iV 0,iV 0,iV 0,iV 0,iV 0,iV 0,iV 0,iV 0,iV 0,iV 0,iV 0,iV 0,iV 0,iV 0,iV 0,iV 0,iV 0,iV 0,iV 0,iV 0,iV 0,iV 0,iV 0,iV 0,iV 0,iV 0,iV 0,iV 0,iV 0,iV 0,iV 0,iV 0,iV 0,iV 0,iV 0,iV 0,iV 0,iV 0,iV 0,iV 0,iV 0,iV 0,iV 0,iV 0,iV 0,iV 0,iV 0] 283::Tb s 64 (List.replicate 64 (0,gn))::L)):sat g w (Pl b (List.replicate 64 (0,gn,0))::L):=by
 have e:([pV s,iV 64,iV 1048576,iV 0,iV 0,iV 0,iV 0,iV 0,iV 0,iV 0,iV 0,iV 0,iV 0,iV 0,iV 0,iV 0,iV 0,iV 0,iV 0,iV 0,iV 0,iV 0,iV 0,iV 0,iV 0,iV 0,iV 0,iV 0,iV 0,iV 0,iV 0,iV 0,iV 0,iV 0,iV 0,iV 0,iV 0,iV 0,iV 0,iV 0,iV 0,iV 0,iV 0,iV 0,iV 0,iV 0,iV 0,iV 0,iV 0,iV 0,iV 0,iV 0,iV 0,iV 0,iV 0,iV 0,iV 0,iV 0,iV 0,iV 0,iV 0,iV 0,iV 0,iV 0,iV 0,iV 0,iV 0]:List Value)=(.pointer (some ⟨s,0,none⟩):: .int .i64 64:: .int .i64 1048576::fl eI (List.replicate 64 0)):=by kernel_rfl
 rw[e] at h
 exact Ct (V:=List.replicate 64 0) ⟨List.length_replicate,UJ,P4⟩ (Yp 64 gn 0) h
theorem fB(gn:Int)(hgn:1≤gn∧gn≤4294967295):HT prog 70 [iV 64,iV 1048576,uV gn] [] (fun v K=> ∃b:Nat,v= .tuple #[pV b,iV 0]∧K= [Pl b (List.replicate 64 (0,gn,0))]):=by
 refine AC func70 ntmps70 fun g w0 R h0=>go [.v 1 16 (oF (gn<1))]<|cP call67 (Hi 64 om gn om) h0 ?_
 rintro v K _ (⟨c,rfl,rfl⟩) d
 have e:=B3 d
 refine g0<|nP 283 ([pV c,iV 64,iV 1048576]++List.replicate 64 (iV 0)) e (fun a j f=> ?_)
 refine g0 ?_
 have i:sat g _ (Pl a (List.replicate 64 (0,gn,0))::_):=oL f
 exact en _ [] ⟨_,_,rfl,⟨a,rfl,rfl⟩,i⟩
theorem Ys{s:Nat}{y z:Int}{V:List Int}: ∀v∈(pV s::Value.int .i64 y::Value.int .i64 z::fl eI V),v.oneCell'=true:=fun v hv=>by
 rcases List.mem_cons.1 hv with rfl |hv
 · rfl
 · rcases List.mem_cons.1 hv with rfl |hv
   · rfl
   · rcases List.mem_cons.1 hv with rfl |hv
     · rfl
     · exact Aw Co V v hv
theorem P8(b:Nat)(X:Xs):HT prog 107 [pV b] [Pl b X] (fun v K=> ∃d:Nat,v=pV d∧K= [Pl b X,Pl d X]):=by
 refine AC func107 ntmps107 fun g w0 R h0=> ?_
 obtain⟨c,V11,hP12,e⟩:=Fc h0
 have f:=DJ (j:=1) e rfl
 have hAl_:=f.1;have hok_:=f.2.2.2
 refine g0<|AF call171 (Gh b c ((iV 64)::(iV 1048576)::fl eI V11)) e fun _ i=>go [.s 3 2]<|AS (.agg ((pV c)::(iV 64)::(iV 1048576)::fl eI V11).toArray) (EZ (x:=Ot 8) kr 0 i rfl _ rfl underlying283 (by rw[P7,hP12.2.2.1];kernel_rfl) kr) ?_
 refine nP 283 ([pO]++List.replicate 66 (iV 0)) i (fun k _ o=> ?_)
 refine AH ?_
 refine Ea (t:=283) (x:=Ot 3) (y:=Ot 9) (cs:=((pV c)::(iV 64)::(iV 1048576)::fl eI V11)) kr kr o (by rw[P7,hP12.2.2.1];kernel_rfl) (by rw[P7,hP12.2.2.1];rfl) Ys kr kr ?_
 intro _ l
 refine Gq ?_
 have p:=l.b.t4
 refine go [rd 4 3 1 0 1 l]<|cP call120 (EN c 64 (As X)) p ?_
 rintro v K _ (⟨m,rfl,rfl⟩) q
 have u:=(CW q).b.t5
 refine g0 ?_
 refine AH ?_
 refine Bc [(0,pV m)] (cs':=((pV m)::(iV 64)::(iV 1048576)::fl eI V11)) kr kr (G5 ⟨⟨by simp only[List.length_cons];omega,rfl⟩,trivial⟩) rfl u ?_
 intro C z
 refine Gq<|g0 ?_
 have A:sat g _ (Pl k X::_):=Ct hP12 rfl z.b.a.t5
 have B:sat g _ (Pl b X::_):=Ct hP12 rfl A.a.b.t4
 exact en _ [] ⟨_,_,rfl,⟨k,rfl,rfl⟩,B⟩
theorem Mf(b:Nat):HT prog 430 [pV b] [] (fun v K=> ∃c,v= .func (Fn.func 458) #[] #[pV c]∧K= [Cl c [pV b] 182]):=by
 refine AC func430 ntmps430 fun g w0 R h0=>g0<|nP 182 [pV b] h0 (fun a _ d=> ?_)
 refine g0 ?_
 exact en _ [] ⟨_,_,rfl,⟨a,rfl,rfl⟩,d⟩
theorem Mg(c b:Nat)(X:Xs):IT prog 458 [pV c] ((AJ 1 (As X) 0).length) (fun i=> [Value.agg #[Value.int .i64 2,Value.int .i64 ((DC X i:Nat):Int),Value.int .u32 (EW X i)],Value.int .i64 (LQ X (DC X i))]) [Cl c [pV b] 182,Pl b X]:=by
 refine PP 34 (fun k_=>([(0,.func (Fn.yield k_) #[] #[]),(1,pV c)]:Fr)) func458 kr ntmps458 rfl (fun _=>rfl) ?_
 intro g w0 R k_ J_ E_ hY h0
 have H:sat g _ (J_ 0::_):=h0
 change WP _ _ (CA f458 []) _ (mk 34 ([(0,.func (Fn.yield k_) #[] #[]),(1,pV c)]:Fr)) _
 refine LH ?_
 refine LH ?_
 refine Wv [0,1,2] ?_
 refine Ww [1,2] [(5,pV b)] [e2 0 [pV b]] [(0,⟨c,0,none⟩,pV b)] [] trivial (kC (AL H 1 rfl rfl) nC) ?_
 have h2:=H.b.t4
 obtain⟨u,V4,hP5,I⟩:=Fc h2
 have J:=DJ (j:=1) I rfl
 have hAl_:=J.1;have hok_:=J.2.2.2
 refine yA ?_
 refine sD 6 call171 (Gh b u ((iV 64)::(iV 1048576)::fl eI V4)) I ?_
 rintro v K w8 (⟨rfl,rfl⟩) h9
 refine⟨_,rfl,?_⟩
 have D:=B3 h9
 refine sC [] [2] [(7,bF)] (.mk ?_)
 refine yK [(0,.func (Fn.yield k_) #[] #[]),(1,pV c),(7,bF)] fun ao=> ?_
 refine mC ?_
 refine tC ?_
 refine LH ?_
 refine Wv [0,1,2,3,4,5,6] ?_
 refine Ww [4,5,6] [(11,pV u),(10,pV b),(9,pV b),(8,pV b)] [e2 0 [pV b],e0 1,e0 2,e2 3 [pV u]] [(3,⟨b,0,none⟩,pV u),(0,⟨c,0,none⟩,pV b)] [] trivial (kC (AL D 0 rfl rfl) (kC (AL D 3 rfl rfl) nC)) ?_
 have P:=D.a.t5
 refine yA ?_
 refine sD 12 call459 (GB u 64 (As X)) P ?_
 rintro v K ap (⟨l,m,rfl,rfl⟩) Q
 refine⟨_,rfl,?_⟩
 have S:=CW Q
 refine sC [] [5,6] [(14,iV 0),(13,iV (((AJ 1 (As X) 0).length:Nat):Int))] (.mk ?_)
 refine yK [(0,.func (Fn.yield k_) #[] #[]),(1,pV c),(12,.slice l ((AJ 1 (As X) 0).length) m),(13,iV (((AJ 1 (As X) 0).length:Nat):Int)),(14,iV 0)] fun aq=> ?_
 refine rZ 0 ?_
 have T:=S.b.t6
 have U:sat g _ (Pl b X::_):=Ct hP5 rfl T
 have hl_:((AJ 1 (As X) 0).length)≤64:=by have f:=DU 1 (As X) 0;omega
 have V:=U.c.c.t5
 refine XK (x:=CA f458 [1,1,0,0]) kr (fun mz_ a w=> ∃i:Nat,∃lr:Fr,mz_=((AJ 1 (As X) 0).length)-i∧(i≤((AJ 1 (As X) 0).length))∧a=mk 34 (([(0,.func (Fn.yield k_) #[] #[]),(1,pV c),(12,.slice l ((AJ 1 (As X) 0).length) m),(13,iV (((AJ 1 (As X) 0).length:Nat):Int)),(14,iV i)]:Fr)++lr)∧sat g w [J_ i,Cl c [pV b] 182,Pl b X,Sl 203 2 l ((AJ 1 (As X) 0).length) m (fl He (AJ 1 (As X) 0)),R]) (((AJ 1 (As X) 0).length)-0) ⟨0,_,rfl,(Nat.zero_le _),(HN [(0,.func (Fn.yield k_) #[] #[]),(1,pV c),(12,.slice l ((AJ 1 (As X) 0).length) m),(13,iV (((AJ 1 (As X) 0).length:Nat):Int)),(14,iV (0:Int))] ⟨rfl,rfl,rfl,rfl,(BE om),trivial⟩),V⟩ ?_
 rintro ar au av ⟨i,aw,rfl,hi,rfl,E⟩
 refine LH ?_
 refine Wv [0] ?_
 by_cases ax:(i:Int)<(((AJ 1 (As X) 0).length:Nat):Int)
 ·
  refine Ww [] [(15,bT)] [e1 0 (bT)] [] [(.bool (decide ((i:Int)<(((AJ 1 (As X) 0).length:Nat):Int))),bT)] ⟨(sO om),trivial⟩ nC (.mk ?_)
  refine yK [(0,.func (Fn.yield k_) #[] #[]),(1,pV c),(12,.slice l ((AJ 1 (As X) 0).length) m),(13,iV (((AJ 1 (As X) 0).length:Nat):Int)),(14,iV i),(15,bT)] fun ay=> ?_
  refine LH ?_
  refine xO ?_
  refine tC ?_
  refine LH ?_
  refine rZ 1 ?_
  refine LH ?_
  refine Wv [0,1,2,3] ?_
  obtain⟨A,F⟩:=Av (j:=3) E rfl om
  refine IV (i:=0) 16 (.pointer (some ⟨A,i*2,none⟩)) kr (HP (o:=EV (RA f458 [1,1,0,0,1,1,0,0,0]) 0) (x:=Ot 12) (i:=Ot 14) (p:=l) (b:=A) (off:=0) (z:=(i:Int)) (len:=((AJ 1 (As X) 0).length)) (cap:=m) kr underlying392 2 kr i kr F kr om om (i*2) om _) ?_
  have B:=E.c.t5
  have az:=Ca Bf dc B
  have L:(AJ 1 (As X) 0)[i]? =some (DC X i,EW X i):=by unfold DC EW;rw[List.getElem?_eq_getElem om,getD_some (List.getElem?_eq_getElem om)]
  have ba:=uC (X:=X) (i:=i) om;have hs34b:=hP5.1
  refine Ww [2,3] [(17,.agg #[iV ((DC X i:Nat):Int),uV (EW X i)])] [e2 1 [iV ((DC X i:Nat):Int),uV (EW X i)]] [(1,⟨A,i*2,none⟩,iV ((DC X i:Nat):Int)),(1,⟨A,i*2+1,none⟩,uV (EW X i))] [] trivial (kC (CM 0 B rfl F Bf 0 (iV ((DC X i:Nat):Int)) L (i*2)) (kC (CM 0 B rfl F Bf 1 (uV (EW X i)) L (i*2+1)) nC)) ?_
  refine yA ?_
  refine yNp 4 203 [iV 0,uV 0] B fun s bb W=> ?_
  refine yA ?_
  refine yS [(0,iV ((DC X i:Nat):Int)),(1,uV (EW X i))] [iV ((DC X i:Nat):Int),uV (EW X i)] W fun bc Y=> ?_
  refine PO.mk ?_
  refine yK [(0,.func (Fn.yield k_) #[] #[]),(1,pV c),(4,pV s),(12,.slice l ((AJ 1 (As X) 0).length) m),(13,iV (((AJ 1 (As X) 0).length:Nat):Int)),(14,iV i)] fun M=> ?_
  refine LH ?_
  refine Xh (id:=4) (ops:=RA f458 [1,1,0,0,1,1,0,0,1,0]) (Tr.fl 0 (Tr.fl 1 (Tr.fl 2 (Tr.fl 3 (Tr.fl 4 (Tr.fl 5 (Tr.fl 6 (Tr.fl 7 (Tr.fl 8 (Tr.fl 9 (Tr.fl 10 (Tr.fl 11 (Tr.fl 12 (Tr.an 13 (Tr.fl 14 Tr.nil))))))))))))))) kr kr kr kr (fun _ _ d _ _ h=>by cases d<;>exact h) Y ?_
  intro bd y
  refine Hd (t:=(Tr.fl 11 (Tr.fl 12 (Tr.an 13 (Tr.fl 14 Tr.nil))))) [⟨0,[],none⟩,⟨1,[],none⟩,⟨2,[iV ((DC X i:Nat):Int)],none⟩,⟨3,[],none⟩,⟨4,[uV (EW X i)],none⟩,⟨5,[],none⟩,⟨6,[pV b],none⟩,⟨7,[],none⟩,⟨8,[iV ((DC X i:Nat):Int)],none⟩,⟨9,[],none⟩,⟨10,[],none⟩] (l':=([(28,.pointer (some ⟨b,3,none⟩)),(27,pV b),(26,iV ((DC X i:Nat):Int)),(25,pV s),(24,pV b),(23,.agg #[iV 2,iV ((DC X i:Nat):Int),uV (EW X i)]),(22,uV (EW X i)),(21,.pointer (some ⟨s,1,none⟩)),(20,iV ((DC X i:Nat):Int)),(19,pV s),(18,.func (Fn.yield k_) #[] #[]),(0,.func (Fn.yield k_) #[] #[]),(1,pV c),(4,pV s),(12,.slice l ((AJ 1 (As X) 0).length) m),(13,iV (((AJ 1 (As X) 0).length:Nat):Int)),(14,iV i)]:Fr)++M) (pts':= [(8,⟨s,0,none⟩,iV ((DC X i:Nat):Int)),(6,⟨c,0,none⟩,pV b),(4,⟨s,1,none⟩,uV (EW X i)),(2,⟨s,0,none⟩,iV ((DC X i:Nat):Int))]) (eqs:= []) kr trivial (CO (AL y 0 rfl rfl) (CO (AL y 3 rfl rfl) (CO (AL y 0 rfl rfl) (CO (AL y 0 rfl rfl) (Bb _))))) ?_
  refine Xi (i:=11) 29 (.pointer (some ⟨b,(DC X i)+3,none⟩)) kr (fun _=>AA (o:=EV (RA f458 [1,1,0,0,1,1,0,0,1,0]) 11) (x:=Ot 28) (i:=Ot 26) (b:=b) (off:=3) (z:=((DC X i:Nat):Int)) kr underlying268 1 kr (DC X i) kr kr om om ((DC X i)+3) om _) ?_
  have Z:=y.d.t6
  obtain⟨be,V45,hP46,G⟩:=Fc Z
  have N:=DJ (j:=1) G rfl
  have hAl_:=N.1;have hok_:=N.2.2.2
  obtain⟨C,O⟩: ∃x:Int,V45[(DC X i)]? =some x:=⟨_,List.getElem?_eq_getElem (by rw[hP46.2.2.1];omega)⟩
  have aa:=fA hP46.2.2 (UL (X:=X) (i:=i) om) O
  refine Hd (t:=(Tr.an 13 (Tr.fl 14 Tr.nil))) [⟨12,[iV C],none⟩] (l':=([(30,iV C),(29,.pointer (some ⟨b,(DC X i)+3,none⟩)),(28,.pointer (some ⟨b,3,none⟩)),(27,pV b),(26,iV ((DC X i:Nat):Int)),(25,pV s),(24,pV b),(23,.agg #[iV 2,iV ((DC X i:Nat):Int),uV (EW X i)]),(22,uV (EW X i)),(21,.pointer (some ⟨s,1,none⟩)),(20,iV ((DC X i:Nat):Int)),(19,pV s),(18,.func (Fn.yield k_) #[] #[]),(0,.func (Fn.yield k_) #[] #[]),(1,pV c),(4,pV s),(12,.slice l ((AJ 1 (As X) 0).length) m),(13,iV (((AJ 1 (As X) 0).length:Nat):Int)),(14,iV i)]:Fr)++M) (pts':= [(12,⟨b,(DC X i)+3,none⟩,iV C)]) (eqs:= []) kr trivial (CO (AL G 0 rfl (yU O om)) (Bb _)) ?_
  have ab:sat g _ (Pl b X::_):=Ct hP46 rfl G
  have ac:=ab.d.d.t6
  refine Pc (d:=some 31) (k:=k_) (args:= [Value.agg #[iV 2,iV ((DC X i:Nat):Int),uV (EW X i)],iV C]) (xa:=(fun i=> [Value.agg #[Value.int .i64 2,Value.int .i64 ((DC X i:Nat):Int),Value.int .u32 (EW X i)],Value.int .i64 (LQ X (DC X i))]) i) (S1:=fun w=>sat g w [J_ (i+1),Cl c [pV b] 182,Pl b X,Cl s [iV ((DC X i:Nat):Int),uV (EW X i)] 203,Sl 203 2 l ((AJ 1 (As X) 0).length) m (fl He (AJ 1 (As X) 0)),R]) (S2:=fun w=>sat g w [E_ i,Cl s [iV ((DC X i:Nat):Int),uV (EW X i)] 203,Sl 203 2 l ((AJ 1 (As X) 0).length) m (fl He (AJ 1 (As X) 0)),R]) kr kr kr kr kr (by show [Value.agg #[Value.int .i64 2,Value.int .i64 ((DC X i:Nat):Int),Value.int .u32 (EW X i)],Value.int .i64 (LQ X (DC X i))]=_;rw[←aa]) (hY i om _ [Cl s [iV ((DC X i:Nat):Int),uV (EW X i)] 203,Sl 203 2 l ((AJ 1 (As X) 0).length) m (fl He (AJ 1 (As X) 0)),R] ac) ?_ ?_
  ·
   intro bf ad
   refine⟨_,rfl,?_⟩
   have ae:sat g _ (J_ (i+1)::_):=ad
   have bg:=(om:i<((AJ 1 (As X) 0).length))
   refine yD _ [(32,bF)] [e0 14] [] [] trivial nC ?_
   refine yK [(0,.func (Fn.yield k_) #[] #[]),(1,pV c),(12,.slice l ((AJ 1 (As X) 0).length) m),(13,iV (((AJ 1 (As X) 0).length:Nat):Int)),(14,iV i),(32,bF)] fun bh=> ?_
   refine mC ?_
   refine tC ?_
   refine Wv [0,1] ?_
   refine Ww [] [(14,iV ((i:Int)+1)),(33,iV ((i:Int)+1))] [e1 0 (iV ((i:Int)+1)),e0 1] [] [(iV (IntKind.wrap .i64 ((i:Int)+1)),iV ((i:Int)+1))] ⟨(Ri om om om),trivial⟩ nC (.mk ?_)
   have af:=ae.e.e.d.d.d.t6
   have ag:=af.t5
   change ∃n',n'<_∧_
   refine⟨(((AJ 1 (As X) 0).length)-(i+1)),by omega,(i+1),_,rfl,om,(HN [(0,.func (Fn.yield k_) #[] #[]),(1,pV c),(12,.slice l ((AJ 1 (As X) 0).length) m),(13,iV (((AJ 1 (As X) 0).length:Nat):Int)),(14,iV (((i+1):Nat):Int))] ⟨rfl,rfl,rfl,rfl,(BE om),trivial⟩),ag⟩
  ·
   intro bi ah
   refine⟨_,rfl,?_⟩
   have ai:sat g _ (E_ i::_):=ah
   have bj:=(om:i<((AJ 1 (As X) 0).length))
   refine yD _ [(32,bT)] [e0 14] [] [] trivial nC ?_
   refine yK [(0,.func (Fn.yield k_) #[] #[]),(1,pV c),(12,.slice l ((AJ 1 (As X) 0).length) m),(13,iV (((AJ 1 (As X) 0).length:Nat):Int)),(14,iV i),(32,bT)] fun bk=> ?_
   refine xO ?_
   refine yRt ?_
   repeat (first|simp only[Exit.inBlock]|simp only[Exit.then])
   refine NI [] (.tuple #[]) [] kr (by intro q hq;cases hq) ⟨⟨_,rfl⟩,?_⟩
   have aj:=ai.c.a.t4
   have ak:=aj.t2
   exact .inr ⟨i,om,ak⟩
 ·
  refine Ww [] [(15,bF)] [e1 0 (bF)] [] [(.bool (decide ((i:Int)<(((AJ 1 (As X) 0).length:Nat):Int))),bF)] ⟨(sQ om),trivial⟩ nC (.mk ?_)
  refine yK [(0,.func (Fn.yield k_) #[] #[]),(1,pV c),(12,.slice l ((AJ 1 (As X) 0).length) m),(13,iV (((AJ 1 (As X) 0).length:Nat):Int)),(14,iV i),(15,bF)] fun bl=> ?_
  refine LH ?_
  refine mC ?_
  refine xP 0 ?_
  repeat (first|simp only[Exit.inBlock]|simp only[Exit.then])
  refine HS [] (.tuple #[]) [] kr (by intro q hq;cases hq) ⟨⟨_,rfl⟩,?_⟩
  have al:=E.d.c.c.c.t5
  have am:=al.t4
  have he_:i=((AJ 1 (As X) 0).length):=(by omega)
  exact .inl (he_▸am)
theorem P9{g w:World}{L:List AB}{j b:Nat}{X:Xs}(h:sat g w L)(hj:L[j]? =some (Pl b X)):X.length=64∧O6 X:=D9 h hj fun _ ha _=>by
 obtain⟨x,a,_⟩:=ha
 exact⟨a.1,a.2.1⟩
theorem Yt(b:Nat)(X:Xs):HQ 400 [pV b] [Pl b X] (iV (FI X)) [Pl b X]:=by
 refine AC func400 ntmps400 fun g w0 R h0=>g0<|nP 3 [iV 0] h0 (fun e _ m=> ?_)
 refine sA [iV 0] m fun _ o=>g0<|cP call430 (Mf b) o ?_
 rintro v K _ (⟨p,rfl,rfl⟩) q
 have f:=B3 q
 have hB_:=P9 (j:=2) f rfl;have hl_:((AJ 1 (As X) 0).length)≤64:=by have d:=DU 1 (As X) 0;rw[E1,hB_.1] at d;exact d
 have s:=f.a.t4
 refine g0 ?_
 refine kN (N:=((AJ 1 (As X) 0).length)) (fun i K=>K= [Cl e [iV (Ii X i)] 3]) (fun c _ K=>False) call458 (Mg p b X) rfl s ?_ ?_ ?_
 ·
  rintro i A lp_ B K_ G ⟨rfl⟩ t
  have k:sat g _ (Cl e [iV (Ii X i)] 3::_):=t
  have hu_:=UO hB_.2 i om;have hv_:=Yk hB_.2 (UL (X:=X) (i:=i) om)
  refine go [rd 4 0 0 0 1 k,.v 4 2 (CD ((Ii X i)+(LQ X (DC X i))))]<|sA [iV ((Ii X i)+(LQ X (DC X i)))] k fun C u=>g0 ?_
  have x:sat g _ (Cl e [iV (Ii X (i+1))] 3::_):=AI u (fun _ hh_=>by rw[UM om];exact hh_)
  exact bU rfl x
 ·
  rintro D27 D K_ ⟨rfl⟩ y
  have l:sat g _ (pt D27 (Obj.deferred (some []))::_):=y
  refine go [rd 5 0 1 0 1 l] ?_
  refine LM (iV (Ii X ((AJ 1 (As X) 0).length))) l (fun _ _=> []) (fun _ z=> ?_) [] []
  exact⟨_,_,rfl,⟨by rw[Yj],rfl⟩,z.c.t5.d.a.t2⟩
 intro _ _ _ _ _ _ hf_;exact hf_.elim
theorem fC(b:Nat)(X:Xs):HT prog 545 [pV b] [Pl b X] (fun v K=> ∃(p:Option Addr) (c:Nat),v= .slice p ((AJ 1 (As X) 0).length) c∧K= [Pl b X,Sl 48 3 p ((AJ 1 (As X) 0).length) c (fl eO (C2 2 X))]):=by
 refine AC func545 ntmps545 fun g w0 R h0=>g0<|nP 514 [.slice none 0 0] h0 (fun m _ z=> ?_)
 refine g0<|cP call430 (Mf b) z ?_
 rintro v K W (⟨q,rfl,rfl⟩) A
 have s:=B3 A
 have hB_:=P9 (j:=2) s rfl;have hl_:((AJ 1 (As X) 0).length)≤64:=by have e:=DU 1 (As X) 0;rw[E1,hB_.1] at e;exact e
 have hz_:(C2 2 X).take 0= []:=rfl
 have B:sat g _ (Sl 48 3 none 0 0 (fl eO [])::_):=CP 48 3 s
 have C:=B.b.t5
 refine g0 ?_
 refine Rr (N:=((AJ 1 (As X) 0).length)) (fun i rb_=>([(4,pV rb_),(8,iV (LQ X (DC X i))),(7,.agg #[iV 2,iV ((DC X i:Nat):Int),uV (EW X i)])]:Fr)) (fun i rb_ K=> ∃p:Option Addr,∃c:Nat,K= [Cl rb_ [iV 2,iV ((DC X i:Nat):Int),uV (EW X i)] 48,Cl m [.slice p i c] 514,Sl 48 3 p i c (fl eO ((C2 2 X).take i))]) (fun i K=> ∃p:Option Addr,∃c:Nat,K= [Cl m [.slice p i c] 514,Sl 48 3 p i c (fl eO ((C2 2 X).take i))]) (fun c _ K=>False) call458 (Mg q b X) ⟨none,0,rfl⟩ C ?_ ?_ ?_ ?_
 ·
  rintro i hi_ lp_ Y K_ G ⟨p,c,rfl⟩ D
  have E:sat g _ (Cl m [.slice p i c] 514::_):=D
  refine g0<|nP 48 [iV 0,iV 0,uV 0] E (fun F _ H=> ?_)
  refine sA [iV 2,iV ((DC X i:Nat):Int),uV (EW X i)] H fun _ I=>g0 ?_
  exact tK F ⟨p,c,rfl⟩ I
 ·
  rintro i Z lp_ aa rb_ K_ G ⟨p,c,rfl⟩ J
  have o:sat g _ (Cl rb_ [iV 2,iV ((DC X i:Nat):Int),uV (EW X i)] 48::_):=J
  refine go [rd 4 0 1 0 1 o,rd 4 1 0 0 3 o]<|nG (fun q_=> .slice (some ⟨q_,0,none⟩) 1 1) 48 [iV 2,iV ((DC X i:Nat):Int),uV (EW X i)] o (fun t _ L=>⟨kd [],?_⟩)
  have u:=L.c.t7
  refine AH ?_
  refine aA 12 3 (Ot 9) (Ot 11) (.agg #[iV 0,iV 0,uV 0]) p i c 1 1 (⟨t,0,none⟩) 24 underlying514 u (fl eO [(2,((DC X i:Nat):Int),(EW X i))]) rfl (Br u rfl) (Aw B6 _) (i+1) ?_
  intro k l ab M
  have x:sat g _ (Sl 48 3 k (i+1) l (fl eO (((C2 2 X).take i)++ [(2,((DC X i:Nat):Int),(EW X i))]))::_):=sJ M
  obtain⟨ac,ad⟩:=BH x
  refine B1<|sA [.slice k (i+1) l] x.c.t7 fun O P=>g0 ?_
  have Q:=P.a.t7
  have S:sat g O [Sl 48 3 k (i+1) l (fl eO ((C2 2 X).take (i+1))),Cl m [.slice k (i+1) l] 514,Cl t [iV 2,iV ((DC X i:Nat):Int),uV (EW X i)] 48,Cl rb_ [iV 2,iV ((DC X i:Nat):Int),uV (EW X i)] 48,Cl q [pV b] 182,Pl b X,G]:=(show (((C2 2 X).take i)++ [(2,((DC X i:Nat):Int),(EW X i))])=((C2 2 X).take (i+1)) from Mb om)▸Q
  exact bU ⟨k,l,rfl⟩ S.f.f.f.c.d.t7.t5
 ·
  rintro D49 ae K_ ⟨p,c,rfl⟩ T
  have U:sat g _ (pt D49 (Obj.deferred (some []))::_):=T
  have y:sat g _ (Sl 48 3 p ((AJ 1 (As X) 0).length) c (fl eO (C2 2 X))::_):=AI U.b.t6 (fun _ hh=>by rw[List.take_of_length_le (by rw[GH];exact Nat.le_refl _)] at hh;exact hh)
  refine go [rd 5 0 2 0 1 y] ?_
  refine LM (.slice p ((AJ 1 (As X) 0).length) c) y.a.t6 (fun _ _=> []) (fun _ V=> ?_) [] []
  exact⟨_,_,rfl,⟨p,c,rfl,rfl⟩,V.a.d.t6.e.b.b.t3⟩
 intro _ _ _ _ _ _ hf_;exact hf_.elim
theorem oM(b:Nat)(X:Xs)(v:Int)(hv:1≤v∧v≤65536):HT prog 345 [pV b,iV v] [Pl b X] (fun r K=>r= .tuple #[.agg #[iV (Dx X v).1,iV (Dx X v).2.1,uV (Dx X v).2.2],iV (F0 X v)]∧K= [Pl b (LR X v)]):=by
 refine AC func345 ntmps345 fun g w0 R h0=>g0<|nP 48 [iV 0,iV 0,uV 0] h0 (fun V _ F=> ?_)
 obtain⟨G,V15,hP16,k⟩:=Fc F.a.t3
 have l:=DJ (j:=1) k rfl
 have hAl_:=l.1;have hok_:=l.2.2.2
 refine g0<|AF call171 (Gh b G ((iV 64)::(iV 1048576)::fl eI V15)) k fun _ H=>go [.v 3 1 (oF (v<1)),.v 3 4 (oF (v>65536))]<|dw (AE [0,2,4,5,6,7] (Tr.an 1 (AE [3,8,9] Tr.nil))) H fun W m=> ?_
 have I:sat g _ (Pl b X::_):=Ct hP16 rfl m
 refine go [rd 5 7 0 2 1 m]<|BZ call400 (Yt b X) I fun _ o=> ?_
 have p:=P9 (j:=0) o rfl;have hu26b:=UK p.2;rw[p.1] at hu26b
 obtain⟨q,V28,hP29,e⟩:=Fc o
 have t:=DJ (j:=1) e rfl
 have hAl_:=t.1;have hok_:=t.2.2.2
 refine⟨kd [rd 0 7 0 2 1 e],?_⟩
 refine go [.v 5 3 (CD ((FI X)+v)),.s 5 8] ?_
 by_cases u:(FI X)+v>1048576
 ·
  have J:=e.b.t4
  refine go [.v 5 8 (oT _ u)]<|sA [iV 0,iV 0,uV 0] J fun Y y=>g0 ?_
  have hp_:=Yl (X:=X) (v:=v) om
  have L:sat g _ (Pl b X::_):=Ct hP29 rfl y.b.b.t4
  exact en (.tuple #[.agg #[iV 0,iV 0,uV 0],iV 4]) [rd 0 0 0 0 3 y] ⟨_,[Pl b X],rfl,⟨by rw[hp_.1,hp_.2.1],by rw[hp_.2.2]⟩,L.B.t2⟩
 have M:=e.a.t4
 refine go [.v 5 8 (oF _ u),rd 7 3 0 0 1 e]<|AF call231 (Gb q 64 (As X)) M fun _ N=>g0<|nP 203 [iV 0,uV 0] N (fun Z _ O=> ?_)
 refine sA [iV ((Bn (As X)).1),uV ((Bn (As X)).2.1)] O fun _ A=>go [.s 8 1] ?_
 by_cases aa:(Bn (As X)).2.2=0
 ·
  obtain⟨htk_,i_,g_,u_,hf_,hx_,hi_,hg_,hA_⟩:=Md (X:=X) (v:=v) om
  have d:i_<64:=by have h_:=(List.getElem?_eq_some_iff.1 hx_).1;rw[hP29.1] at h_;exact h_
  refine go [.v 8 1 (Db ((Bn (As X)).2.2) 0)]<|dw (AE [0,1,2,3,4,5,6] (Tr.an 7 Tr.nil)) A fun _ C=>go [rd 10 2 0 0 1 C,.s 10 6]<|lw (.pointer (some ⟨b,i_+3,none⟩)) (fun _=>AA (x:=Ot 48) (i:=Ot 45) (b:=b) (off:=3) (z:=((Bn (As X)).1)) kr underlying268 1 kr i_ kr kr om om (i_+3) om _) ?_
  have P:=C.b.t5
  refine AH ?_
  refine Bc [(i_+3,iV v)] (cs':=((pV q)::(iV 64)::(iV 1048576)::fl eI (V28.set i_ v))) kr kr (G5 ⟨⟨by rw[P7,hP29.2.2.1];omega,rfl⟩,trivial⟩) (kW om (by rw[hP29.2.2.1];omega)) P ?_
  intro _ f
  refine⟨kd [],IK ?_⟩
  have Q:=f.c.t5
  refine go [rd 11 1 1 0 1 f,rd 11 3 1 1 1 f]<|sA [iV 2,iV ((Bn (As X)).1),uV ((Bn (As X)).2.1)] Q fun ab D=>g0 ?_
  have hp_:=nZ (v:=v) (show ¬1048576<FI X+v from by omega) hf_
  have S:sat g _ (Pl b (LR X v)::_):=Ct (by rw[hp_.2.2];exact oB hP29 d om) (hA_.trans (by rw[hp_.2.2])) D.c.b.t5
  exact en (.tuple #[.agg #[iV 2,iV ((Bn (As X)).1),uV ((Bn (As X)).2.1)],iV 0]) [rd 0 0 0 0 3 D] ⟨_,_,rfl,⟨by rw[hp_.1,hp_.2.1,hi_,hg_],rfl⟩,S.c.a.t2⟩
 have T:=A.c.t5
 refine go [.v 8 1 (Tc ((Bn (As X)).2.2) 0)]<|sA [iV 0,iV 0,uV 0] T fun ac E=>g0 ?_
 have ht_:=Mc (X:=X) om;have hp_:=Ym (v:=v) (show ¬1048576<FI X+v from by omega) ht_.1
 have U:sat g _ (Pl b X::_):=Ct hP29 ht_.2.2 E.b.c.t5
 exact en (.tuple #[.agg #[iV 0,iV 0,uV 0],iV 4]) [rd 0 0 0 0 3 E] ⟨_,[Pl b X],rfl,⟨by rw[hp_.1,hp_.2.1],by rw[hp_.2.2]⟩,U.c.a.t2⟩
theorem Yu(b:Nat)(X:Xs)(y z:Int)(q:Nat)(hat:(As X)[q]? =some (1,z))(hy:y=(q:Int)):HQ 480 [pV b,.agg #[iV 2,iV y,uV z]] [Pl b X] (.tuple #[.agg #[iV y,uV z],iV 0]) [Pl b X]:=by
 refine AC func480 ntmps480 fun g w0 R l=> ?_
 have hbd_:=P9 (j:=0) l rfl;have e:q<64:=by have h_:=(List.getElem?_eq_some_iff.1 hat).1;rw[E1,hbd_.1] at h_;exact h_
 refine g0<|nP 48 [iV 2,iV y,uV z] l (fun F _ x=> ?_)
 refine nP 203 [iV 0,uV 0] x (fun G _ i=> ?_)
 refine go [rd 1 1 1 1 1 i,rd 1 3 1 2 1 i]<|nP 203 [iV 0,uV 0] i (fun H _ A=> ?_)
 refine sA [iV y,uV z] A fun _ B=> ?_
 obtain⟨m,V23,hP24,o⟩:=Fc B.c.t5
 have p:=DJ (j:=1) o rfl
 have hAl_:=p.1;have hok_:=p.2.2.2
 refine g0<|AF call171 (Gh b m ((iV 64)::(iV 1048576)::fl eI V23)) o fun _ s=>go [rd 4 1 4 0 1 s]<|dw (AE [0,1,2,3,4,5,6,7,8,9,10,11,12] Tr.nil) s fun _ f=>go [rd 6 1 4 1 1 f,.v 6 2 (oF (y<0)),rd 6 5 4 1 1 f,rd 6 9 0 1 1 f,.v 6 10 (oF (y≥64))]<|dw (AE [0,1,2,3,4] (Tr.an 5 (AE [6,7] Tr.nil))) f fun _ k=> ?_
 have C:=k.a.t6
 refine go [rd 8 3 0 0 1 k,rd 8 4 2 0 2 k]<|BZ call325 (GA m 64 (As X) q (1,z) hat y z ⟨by omega,rfl,rfl⟩) C fun _ t=>⟨kd [],?_⟩
 have D:=t.c.t6
 refine go [rd 10 0 2 0 2 t]<|sA [iV y,uV z] D fun I u=>g0 ?_
 have E:sat g _ (Pl b X::_):=Ct hP24 rfl u.a.b.t6
 exact AD _ [rd 0 0 0 0 2 u] E.d.a.t2
theorem Vo(b:Nat)(X:Xs)(y z:Int)(q:Nat)(hat:(As X)[q]? =some (1,z))(hy:y=(q:Int)):HQ 453 [pV b,.agg #[iV 2,iV y,uV z]] [Pl b X] (iV 0) [Pl b (GF X (2,y,z))]:=by
 refine AC func453 ntmps453 fun g w0 R f=> ?_
 have hbd_:=P9 (j:=0) f rfl;have d:q<64:=by have h_:=(List.getElem?_eq_some_iff.1 hat).1;rw[E1,hbd_.1] at h_;exact h_
 refine g0<|nP 48 [iV 2,iV y,uV z] f (fun H _ k=> ?_)
 have u:=k.a.t3
 refine go [rd 1 1 0 0 3 k]<|AF call480 (Yu b X y z q hat hy) u fun _ A=>g0<|nP 203 [iV 0,uV 0] A (fun I _ B=> ?_)
 refine sA [iV y,uV z] B fun _ C=>g0<|dw (AE [0,1,2,3,4,5] (Tr.an 6 Tr.nil)) C fun _ l=>go [rd 4 2 0 0 1 l,.s 4 5]<|lw (.pointer (some ⟨b,q+3,none⟩)) (fun _=>AA (x:=Ot 20) (i:=Ot 18) (b:=b) (off:=3) (z:=y) kr underlying268 1 kr q kr kr om om (q+3) om _) ?_
 obtain⟨m,V25,hP26,p⟩:=Fc l.a.t4
 have t:=DJ (j:=1) p rfl
 have hAl_:=t.1;have hok_:=t.2.2.2
 refine AH ?_
 refine Bc [(q+3,iV 0)] (cs':=((pV m)::(iV 64)::(iV 1048576)::fl eI (V25.set q 0))) kr kr (G5 ⟨⟨by rw[P7,hP26.2.2.1];omega,rfl⟩,trivial⟩) (kW om (by rw[hP26.2.2.1];omega)) p ?_
 intro _ D
 refine⟨kd [],IK ?_⟩
 refine g0<|dw (AE [0,1,2,3,4] (Tr.an 5 (Tr.fl 6 Tr.nil))) D fun _ e=> ?_
 have E:=e.a.t5
 refine go [rd 5 3 0 0 1 e,rd 5 4 2 0 2 e]<|BZ call382 (Hk m 64 (As X) q (1,z) hat y z ⟨by omega,rfl,rfl⟩) E fun J F=>⟨kd [],?_⟩
 refine g0 ?_
 have G:sat g _ (Pl b (GF X (2,y,z))::_):=Ct (oD (o:=(2,y,z)) hP26 hy) (Me X (2,y,z) hy) F.a.t5
 exact AD _ [] G.c.a.t2
end Go.Proofs.YtcgkoffnknpgjaaGreatDoor
