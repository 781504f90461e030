/-
  Tags, as plain functions of the lists of their bytes. No program in sight.
-/
import Derived.Test.YtcgkoffnknpgjaaGreatDoorSrg
import Derived.Test.YtcgkoffnknpgjaaGreatDoorHq
import Derived.Test.YtcgkoffnknpgjaaGreatDoorBundle22
namespace Go.Proofs.YtcgkoffnknpgjaaGreatDoor
set_option linter.unusedVariables false
set_option linter.unusedSimpArgs false
open Tryz
set_option maxHeartbeats 4000000
def badR(L:List UInt8)(p:Nat):Prop:=((dec L p).1=65533∧ ¬(L.drop p).take 3= [239,191,189])∨(dec L p).1<32∨(dec L p).1=127
instance (L:List UInt8) (p:Nat):Decidable (badR L p):=by unfold badR;infer_instance
def tagScan(L:List UInt8):Nat→Nat→Nat→Option Nat
 |0,_,n=>some n
 |f+1,p,n=>if L.length≤p then some n else if badR L p then none else tagScan L f (p+(dec L p).2) (n+1)
theorem scan_end{L:List UInt8}{f p n:Nat}(h:L.length≤p):tagScan L f p n=some n:=by
 cases f with
 |zero=>rfl
 |succ f=>exact if_pos h
theorem scan_bad{L:List UInt8}{f p n:Nat}(h:p<L.length)(hf:L.length≤p+f)(hb:badR L p):tagScan L f p n=none:=by
 cases f with
 |zero=>omega
 |succ f=>
  show (if L.length≤p then _ else _)=_
  rw[if_neg om,if_pos hb]
theorem scan_go{L:List UInt8}{f p n:Nat}(h:p<L.length)(hf:L.length≤p+f)(hb: ¬badR L p):tagScan L f p n=tagScan L (f-1) (p+(dec L p).2) (n+1):=by
 cases f with
 |zero=>omega
 |succ f=>
  show (if L.length≤p then _ else _)=_
  rw[if_neg om,if_neg hb]
  rfl
def scanN(L:List UInt8):Nat:=(tagScan L L.length 0 0).getD 0
def scanB(L:List UInt8):Bool:=(tagScan L L.length 0 0).isSome
def tagE(L:List UInt8):Int:=if 96<L.length then 16 else if scanB L=true∧1≤scanN L∧scanN L≤24 then 0 else 16
theorem tagE_or(L:List UInt8):tagE L=0∨tagE L=16:=by
 unfold tagE
 split
 · exact .inr rfl
 · split
   · exact .inl rfl
   · exact .inr rfl
theorem pfx_len{L:List UInt8}{a b c:UInt8}(h:L.take 3= [a,b,c]):3≤L.length:=by
 have:=congrArg List.length h
 rw[List.length_take] at this
 simp only[List.length_cons,List.length_nil] at this
 omega
theorem lpfx_t(L:List UInt8)(h:L.take 3= [239,191,189])(hm:L.length≤1099511627776):HQ 133 [.string (St L),.string (St [239,191,189])] [] (.bool true) []:=by
 have hl_:=pfx_len h
 refine hiS func133 ntmps133 fun g w0 R h0=>go [.v 1 1 (⟨iV ((St L).size:Int),iV (L.length:Int),(ov_int (st_len _))⟩),.v 1 3 (⟨iV ((St [239,191,189]).size:Int),iV 3,(ov_int rfl)⟩),.v 1 4 (oT ((L.length:Int)≥3)),.v 1 8 (⟨iV ((St [239,191,189]).size:Int),iV 3,(ov_int rfl)⟩),.s 1 9]<|lwP (.string (St (L.take 3))) (law_strTo (t:=9) (x:=Ot 11) (y:=Ot 13) (L:=L) (z:=3) kr underlying9 kr kr 3 om om _)<|go [.s 1 11]<|lwP (.bool true) (law_eqStr (t:=9) (x:=Ot 14) (y:=Ot 15) (a:=(L.take 3)) (b:= [239,191,189]) kr kr kr true (decide_eq_true h) _)<|g0 ?_
 exact enR _ [] h0
theorem lpfx_f(L:List UInt8)(h: ¬L.take 3= [239,191,189])(hm:L.length≤1099511627776):HQ 133 [.string (St L),.string (St [239,191,189])] [] (.bool false) []:=by
 refine hiS func133 ntmps133 fun g w0 R h0=>go [.v 1 1 (⟨iV ((St L).size:Int),iV (L.length:Int),(ov_int (st_len _))⟩),.v 1 3 (⟨iV ((St [239,191,189]).size:Int),iV 3,(ov_int rfl)⟩),.s 1 4] ?_
 by_cases c10:(L.length:Int)≥3
 ·
  refine go [.v 1 4 (oT _ c10),.v 1 8 (⟨iV ((St [239,191,189]).size:Int),iV 3,(ov_int rfl)⟩),.s 1 9]<|lwP (.string (St (L.take 3))) (law_strTo (t:=9) (x:=Ot 11) (y:=Ot 13) (L:=L) (z:=3) kr underlying9 kr kr 3 om om _)<|go [.s 1 11]<|lwP (.bool false) (law_eqStr (t:=9) (x:=Ot 14) (y:=Ot 15) (a:=(L.take 3)) (b:= [239,191,189]) kr kr kr false (decide_eq_false h) _)<|g0 ?_
  exact enR _ [] h0
 refine go [.v 1 4 (oF _ c10)] ?_
 exact enR _ [] h0
theorem pfx_t(L:List UInt8)(h:L.take 3= [239,191,189])(hm:L.length≤1099511627776):HQ 77 [.string (St L),.string (St [239,191,189])] [] (.bool true) []:=by
 have hl_:=pfx_len h
 refine hiS func77 ntmps77 fun g w0 R h0=>g0<|cl0 call133 (lpfx_t L (by assumption) om) h0 fun _ h11=>g0 ?_
 exact enR _ [] h11
theorem pfx_f(L:List UInt8)(h: ¬L.take 3= [239,191,189])(hm:L.length≤1099511627776):HQ 77 [.string (St L),.string (St [239,191,189])] [] (.bool false) []:=by
 refine hiS func77 ntmps77 fun g w0 R h0=>g0<|cl0 call133 (lpfx_f L (by assumption) om) h0 fun _ h11=>g0 ?_
 exact enR _ [] h11
theorem rune_t(c:Int)(h:32≤c∧c≠127):HQ 195 [.int .i32 c] [] (.bool true) []:=by
 refine hiS func195 ntmps195 fun g w0 R h0=>go [.v 1 1 (oT (c≥32)),.v 1 4 (qnT c 127)] ?_
 exact enR _ [] h0
theorem rune_f(c:Int)(h:c<32∨c=127):HQ 195 [.int .i32 c] [] (.bool false) []:=by
 refine hiS func195 ntmps195 fun g w0 R h0=>go [.s 1 1] ?_
 by_cases c10:c≥32
 ·
  refine go [.v 1 1 (oT _ c10),.v 1 4 (qnF c 127)] ?_
  exact enR _ [] h0
 refine go [.v 1 1 (oF _ c10)] ?_
 exact enR _ [] h0
theorem tall_ht(L:List UInt8)(hm:L.length≤1099511627776):HQ 194 [.string (St L),.func (Fn.func 195) #[] #[]] [] (.tuple #[iV (scanN L:Int),.bool (scanB L)]) []:=by
 refine hiS func194 ntmps194 fun g w0 R h0=>g0 ?_
 refine actG ?_
 refine as_rangeStr (t:=9) (d:=10) (x:=Ot 9) (L:=L) kr kr rfl underlying9 kr h0 ?_
 intro r10 _ h12
 refine nxA<|g0 ?_
 refine lpS (fun mz_ a w=> ∃p:Nat,∃n:Nat,∃f:Nat,∃lr:Fr,mz_=L.length-p∧(n≤p)∧(L.length≤p+f)∧(tagScan L L.length 0 0=tagScan L f p n)∧a=mk 33 (([(0,.string (St L)),(1,.func (Fn.func 195) #[] #[]),(6,iV n),(10,pV r10)]:Fr)++lr)∧sat g w [Si r10 L p,R]) (L.length-0) ⟨0,0,L.length,_,rfl,(Nat.le_refl _),om,rfl,(lvF [.k 0 (.string (St L)),.k 1 (.func (Fn.func 195) #[] #[]),.o 6 (oJ .i64 0 (0:Int)),.k 10 (pV r10)]),h12⟩ ?_
 rintro m14 a15 w16 ⟨p,n,f,lr13,rfl,hn_,hf_,ht_,rfl,h17⟩
 refine ga<|g0 ?_
 by_cases c18:p<L.length
 ·
  have hd19:=dec_pos (L:=L) (p:=p) om;have hd20:=dec_max L p
  refine actG ?_
  refine as_next (d:=11) (x:=Ot 10) (r:=r10) (L:=L) (p:=p) kr kr rfl kr h17 om om ?_
  intro _ h22
  refine nxA<|go [.s 5 1] ?_
  by_cases c23:(((dec L p).1:Nat):Int)=65533
  ·
   refine go [.v 5 1 (qeT _ _ c23),.s 5 5]<|lwP (.string (St (L.drop p))) (law_strFrom (t:=9) (x:=Ot 18) (y:=Ot 19) (L:=L) (z:=(p:Int)) kr underlying9 kr kr p om om _) ?_
   by_cases c24:(L.drop p).take 3=([239,191,189]:List UInt8)
   ·
    refine cl0 call77 (pfx_t (L.drop p) (by assumption) (by rw[List.length_drop];omega)) h22 fun _ h26=> ?_
    refine g0<|cl0 call195 (rune_t (((dec L p).1:Nat):Int) om) h26 fun _ h28=>go [.v 7 1 (oIr ((n:Int)+1))] ?_
    refine enL ?_
    have hg_: ¬badR L p:=by
     rintro(⟨b,c⟩|b|b)<;>first|omega|exact absurd (by assumption) c
    change ∃n',n'<_∧_
    refine⟨(L.length-(p+((dec L p).2))),by omega,p+((dec L p).2),(n+1),(f-1),_,rfl,om,om,(ht_.trans (scan_go om hf_ hg_)),(lvF [.k 0 (.string (St L)),.k 1 (.func (Fn.func 195) #[] #[]),.o 6 (oJ .i64 ((n:Int)+1) (((n+1):Nat):Int)),.k 10 (pV r10)]),h28⟩
   refine cl0 call77 (pfx_f (L.drop p) (by assumption) (by rw[List.length_drop];omega)) h22 fun _ h30=> ?_
   refine g0<|up<|g0 ?_
   have hb_:badR L p:=by
    first|exact .inr (.inl om)|exact .inr (.inr om)|exact .inl ⟨by omega,by assumption⟩
   have hs_:tagScan L L.length 0 0=none:=ht_.trans (scan_bad om hf_ hb_)
   exact en (.tuple #[iV 0,.bool false]) [] ⟨_,_,rfl,⟨by unfold scanN scanB;rw[hs_];rfl,rfl⟩,h30.a.t1⟩
  refine go [.v 5 1 (qeF _ _ c23)] ?_
  by_cases c32:32≤(((dec L p).1:Nat):Int)
  ·
   by_cases c33:(((dec L p).1:Nat):Int)=127
   ·
    refine cl0 call195 (rune_f (((dec L p).1:Nat):Int) om) h22 fun _ h35=>g0<|up<|g0 ?_
    have hb_:badR L p:=by
     first|exact .inr (.inl om)|exact .inr (.inr om)|exact .inl ⟨by omega,by assumption⟩
    have hs_:tagScan L L.length 0 0=none:=ht_.trans (scan_bad om hf_ hb_)
    exact en (.tuple #[iV 0,.bool false]) [] ⟨_,_,rfl,⟨by unfold scanN scanB;rw[hs_];rfl,rfl⟩,h35.a.t1⟩
   refine cl0 call195 (rune_t (((dec L p).1:Nat):Int) om) h22 fun _ h38=>go [.v 7 1 (oIr ((n:Int)+1))] ?_
   refine enL ?_
   have hg_: ¬badR L p:=by
    rintro(⟨b,c⟩|b|b)<;>first|omega|exact absurd (by assumption) c
   change ∃n',n'<_∧_
   refine⟨(L.length-(p+((dec L p).2))),by omega,p+((dec L p).2),(n+1),(f-1),_,rfl,om,om,(ht_.trans (scan_go om hf_ hg_)),(lvF [.k 0 (.string (St L)),.k 1 (.func (Fn.func 195) #[] #[]),.o 6 (oJ .i64 ((n:Int)+1) (((n+1):Nat):Int)),.k 10 (pV r10)]),h38⟩
  refine cl0 call195 (rune_f (((dec L p).1:Nat):Int) om) h22 fun _ h40=>g0<|up<|g0 ?_
  have hb_:badR L p:=by
   first|exact .inr (.inl om)|exact .inr (.inr om)|exact .inl ⟨by omega,by assumption⟩
  have hs_:tagScan L L.length 0 0=none:=ht_.trans (scan_bad om hf_ hb_)
  exact en (.tuple #[iV 0,.bool false]) [] ⟨_,_,rfl,⟨by unfold scanN scanB;rw[hs_];rfl,rfl⟩,h40.a.t1⟩
 refine actG ?_
 refine as_nextEnd (d:=11) (x:=Ot 10) (r:=r10) (L:=L) (p:=p) kr kr rfl kr (j:=0) h17 rfl om ?_
 refine nxA<|g0<|up<|g0 ?_
 have hs_:tagScan L L.length 0 0=some n:=ht_.trans (scan_end om)
 exact en (.tuple #[iV n,.bool true]) [] ⟨_,_,rfl,⟨by unfold scanN scanB;rw[hs_];rfl,rfl⟩,h17.a.t1⟩
theorem tag_ht(L:List UInt8)(hm:L.length≤1099511627776):HQ 131 [.string (St L)] [] (iV (tagE L)) []:=by
 refine hiS func131 ntmps131 fun g w0 R h0=>go [.v 1 1 (⟨iV ((St L).size:Int),iV (L.length:Int),(ov_int (st_len _))⟩),.s 1 2] ?_
 by_cases c10:(L.length:Int)>96
 ·
  refine go [.v 1 2 (oT _ c10)] ?_
  exact en (iV 16) [] ⟨_,_,rfl,⟨by unfold tagE;rw[if_pos om],rfl⟩,h0⟩
 refine go [.v 1 2 (oF _ c10)] ?_
 rcases Bool.eq_false_or_eq_true (scanB L) with cb11|cb11
 ·
  refine cl0 call194 (by have h_:=tall_ht L om;rw[cb11] at h_;exact h_) h0 fun _ h13=> ?_
  refine go [.s 4 4] ?_
  by_cases c14:((scanN L:Nat):Int)<1
  ·
   refine go [.v 4 4 (oT _ c14)] ?_
   exact en (iV 16) [] ⟨_,_,rfl,⟨by unfold tagE;rw[if_neg om,if_neg (by rintro⟨a,b,c⟩;first|omega|simp_all)],rfl⟩,h13⟩
  refine go [.v 4 4 (oF _ c14),.s 4 8] ?_
  by_cases c15:((scanN L:Nat):Int)>24
  ·
   refine go [.v 4 8 (oT _ c15)] ?_
   exact en (iV 16) [] ⟨_,_,rfl,⟨by unfold tagE;rw[if_neg om,if_neg (by rintro⟨a,b,c⟩;first|omega|simp_all)],rfl⟩,h13⟩
  refine go [.v 4 8 (oF _ c15)] ?_
  exact en (iV 0) [] ⟨_,_,rfl,⟨by unfold tagE;rw[if_neg om,if_pos ⟨by assumption,by omega,by omega⟩],rfl⟩,h13⟩
 refine cl0 call194 (by have h_:=tall_ht L om;rw[cb11] at h_;exact h_) h0 fun _ h17=> ?_
 refine g0 ?_
 exact en (iV 16) [] ⟨_,_,rfl,⟨by unfold tagE;rw[if_neg om,if_neg (by rintro⟨a,b,c⟩;first|omega|simp_all)],rfl⟩,h17⟩
def posP(x y z st why tr nx:Int):Prop:=(1≤x∧x≤3∧0≤y∧y≤63∧1≤z)∧((st=1∧why=0∧tr=0∧nx=0)∨(st=2∧1≤why∧why≤3∧0≤tr∧tr≤10000∧0≤nx∧nx≤1099511627776)∨((st=3∨st=4)∧1≤why∧why≤3∧0≤tr∧tr≤10000∧nx=0))
instance (x y z st why tr nx:Int):Decidable (posP x y z st why tr nx):=by unfold posP;infer_instance
structure Rs where
 out:Ky
 st:Int
 why:Int
 tr:Int
 nx:Int
 tag:List UInt8
def eRs(r:Rs):List Value:= [iV r.out.1,iV r.out.2.1,uV r.out.2.2,iV r.st,iV r.why,iV r.tr,iV r.nx,.string (St r.tag)]
theorem eRs_ok:Enc 8 eRs:=⟨fun _=>rfl,fun x v hv=>by simp[eRs] at hv;rcases hv with rfl |rfl |rfl |rfl |rfl |rfl |rfl |rfl<;>rfl⟩
def resE(x y z st why tr nx:Int)(L:List UInt8):Int:=if posP x y z st why tr nx then tagE L else 2
theorem in_t(v lo hi:Int)(h:lo≤v∧v≤hi):HT prog 387 [iV v,iV lo,iV hi] [] (fun r K=>r= .bool true∧K= []):=by
 refine hiS func387 ntmps387 fun g w0 R h0=>go [.v 1 2 (oT (v≥lo)),.v 1 6 (oT (v≤hi))] ?_
 exact enR (.bool true) [] h0
theorem in_f(v lo hi:Int)(h:v<lo∨hi<v):HT prog 387 [iV v,iV lo,iV hi] [] (fun r K=>r= .bool false∧K= []):=by
 refine hiS func387 ntmps387 fun g w0 R h0=>go [.s 1 2] ?_
 by_cases c10:v≥lo
 ·
  refine go [.v 1 2 (oT _ c10),.v 1 6 (oF (v≤hi))] ?_
  exact enR (.bool false) [] h0
 refine go [.v 1 2 (oF _ c10)] ?_
 exact enR (.bool false) [] h0
theorem time_t(v:Int)(h:0≤v∧v≤1099511627776):HT prog 388 [iV v] [] (fun r K=>r= .bool true∧K= []):=by
 refine hiS func388 ntmps388 fun g w0 R h0=>g0<|cl0 call387 (in_t v 0 1099511627776 om) h0 fun _ h11=>g0 ?_
 exact enR (.bool true) [] h11
theorem time_f(v:Int)(h:v<0∨1099511627776<v):HT prog 388 [iV v] [] (fun r K=>r= .bool false∧K= []):=by
 refine hiS func388 ntmps388 fun g w0 R h0=>g0 ?_
 by_cases c10:0≤v
 ·
  refine cl0 call387 (in_f v 0 1099511627776 om) h0 fun _ h12=>g0 ?_
  exact enR (.bool false) [] h12
 refine cl0 call387 (in_f v 0 1099511627776 om) h0 fun _ h14=>g0 ?_
 exact enR (.bool false) [] h14
theorem shapes_ht:HQ 431 [] [] (.agg #[.string (St []),iV 0,.bool false,.string (St [108,105,118,101]),iV 0,.bool false,.string (St [99,108,111,115,105,110,103]),iV 3,.bool true,.string (St [114,101,108,101,97,115,101,100]),iV 3,.bool false,.string (St [113,117,97,114,97,110,116,105,110,101]),iV 3,.bool false]) []:=by
 refine hiS func431 ntmps431 fun g w0 R h0=>g0<|nP 541 [.string (St []),iV 0,.bool false,.string (St []),iV 0,.bool false,.string (St []),iV 0,.bool false,.string (St []),iV 0,.bool false,.string (St []),iV 0,.bool false] h0 (fun _ _ h12=> ?_)
 refine g0<|sA [.string (St []),iV 0,.bool false,.string (St [108,105,118,101]),iV 0,.bool false,.string (St [99,108,111,115,105,110,103]),iV 3,.bool true,.string (St [114,101,108,101,97,115,101,100]),iV 3,.bool false,.string (St [113,117,97,114,97,110,116,105,110,101]),iV 3,.bool false] h12 fun _ h14=>g0 ?_
 exact enR _ [rd 0 0 0 0 15 h14] h14.a.t1
theorem poss_ht(x y z st why tr nx:Int)(L:List UInt8)(hz0:0≤z)(hz1:z≤4294967295):HQ 401 [.agg #[iV x,iV y,uV z,iV st,iV why,iV tr,iV nx,.string (St L)]] [] (.bool (decide (posP x y z st why tr nx))) []:=by
 refine hiS func401 ntmps401 fun g w0 R h0=>g0<|nP 226 [iV x,iV y,uV z,iV st,iV why,iV tr,iV nx,.string (St L)] h0 (fun r10 _ h12=> ?_)
 refine go [rd 1 1 0 0 3 h12] ?_
 by_cases c13:1≤x
 ·
  by_cases c14:x≤3;rotate_left
  ·
   refine cl0 call273 (couter_no x y z om om om) h12 fun _ h152=>g0 ?_
   exact en (.bool false) [] ⟨_,_,rfl,⟨by rw[decide_eq_false (by unfold posP;omega)],rfl⟩,h152.a.t1⟩
  by_cases c15:0≤y;rotate_left
  ·
   refine cl0 call273 (couter_no x y z om om om) h12 fun _ h149=>g0 ?_
   exact en (.bool false) [] ⟨_,_,rfl,⟨by rw[decide_eq_false (by unfold posP;omega)],rfl⟩,h149.a.t1⟩
  by_cases c16:y≤63;rotate_left
  ·
   refine cl0 call273 (couter_no x y z om om om) h12 fun _ h146=>g0 ?_
   exact en (.bool false) [] ⟨_,_,rfl,⟨by rw[decide_eq_false (by unfold posP;omega)],rfl⟩,h146.a.t1⟩
  by_cases c17:1≤z;rotate_left
  ·
   refine cl0 call273 (couter_no x y z om om om) h12 fun _ h143=>g0 ?_
   exact en (.bool false) [] ⟨_,_,rfl,⟨by rw[decide_eq_false (by unfold posP;omega)],rfl⟩,h143.a.t1⟩
  refine cl0 call273 (couter_ok x y z om om om) h12 fun _ h19=>go [rd 1 6 0 3 1 h19,.s 1 7] ?_
  by_cases c20:st<1
  ·
   refine go [.v 1 7 (oT _ c20)] ?_
   exact en (.bool false) [] ⟨_,_,rfl,⟨by rw[decide_eq_false (by unfold posP;omega)],rfl⟩,h19.a.t1⟩
  refine go [.v 1 7 (oF _ c20),rd 1 11 0 3 1 h19,.s 1 12] ?_
  by_cases c22:st>4
  ·
   refine go [.v 1 12 (oT _ c22)] ?_
   exact en (.bool false) [] ⟨_,_,rfl,⟨by rw[decide_eq_false (by unfold posP;omega)],rfl⟩,h19.a.t1⟩
  refine go [.v 1 12 (oF _ c22),.s 3 100000] ?_
  refine jnS (fun a w=> ∃rb:Nat,∃hi:Int,∃bb:Bool,∃wd:List UInt8,∃lr:Fr,((st=1∧hi=0)∨((st=2∨st=3∨st=4)∧hi=3))∧(bb=decide (st=2))∧a=mk 53 (([(1,pV r10),(3,pV rb)]:Fr)++lr)∧sat g w [Cl rb [.string (St wd),iV hi,.bool bb] 540,Cl r10 [iV x,iV y,uV z,iV st,iV why,iV tr,iV nx,.string (St L)] 226,R]) ?_ ?_
  ·
   refine g0<|dw (fls [1,2] (Tr.an2 0 (Tr.fl 3 (Tr.an 4 (Tr.an 5 Tr.nil))) 4 (Tr.an 0 (Tr.fl 3 (Tr.an 5 Tr.nil))))) h19 fun _ h25=>go [rd 3 2 0 3 1 h25] ?_
   refine br2 ?_ ?_
   ·
    refine cw0 call431 shapes_ht h25 fun _ h27=>⟨kd [rd 0 2 0 3 1 h27],?_⟩
    by_cases c28:st=1
    ·
     refine lw (.agg #[.string (St [108,105,118,101]),iV 0,.bool false]) (fun _=>law_index (t:=541) (x:=Ot 19) (y:=Ot 21) (z:=st) (cs:= #[.string (St []),iV 0,.bool false,.string (St [108,105,118,101]),iV 0,.bool false,.string (St [99,108,111,115,105,110,103]),iV 3,.bool true,.string (St [114,101,108,101,97,115,101,100]),iV 3,.bool false,.string (St [113,117,97,114,97,110,116,105,110,101]),iV 3,.bool false]) kr underlying541 underlying540 3 kr kr kr 1 om dc (by rfl) _)<|nG (fun q_=>pV q_) 540 [.string (St []),iV 0,.bool false] h27 (fun r29 _ h31=>⟨kd [rd 0 2 1 3 1 h31],?_⟩)
     refine sB [.string (St [108,105,118,101]),iV 0,.bool false] h31 fun _ h33=>⟨kd [],?_⟩
     refine g0 ?_
     refine enL ?_
     exact⟨r29,0,false,[108,105,118,101],_,om,(by rw[decide_eq_false om]),(lvF [.k 1 (pV r10),.k 3 (pV r29)]),h33⟩
    by_cases c34:st=2
    ·
     refine lw (.agg #[.string (St [99,108,111,115,105,110,103]),iV 3,.bool true]) (fun _=>law_index (t:=541) (x:=Ot 19) (y:=Ot 21) (z:=st) (cs:= #[.string (St []),iV 0,.bool false,.string (St [108,105,118,101]),iV 0,.bool false,.string (St [99,108,111,115,105,110,103]),iV 3,.bool true,.string (St [114,101,108,101,97,115,101,100]),iV 3,.bool false,.string (St [113,117,97,114,97,110,116,105,110,101]),iV 3,.bool false]) kr underlying541 underlying540 3 kr kr kr 2 om dc (by rfl) _)<|nG (fun q_=>pV q_) 540 [.string (St []),iV 0,.bool false] h27 (fun r35 _ h37=>⟨kd [rd 0 2 1 3 1 h37],?_⟩)
     refine sB [.string (St [99,108,111,115,105,110,103]),iV 3,.bool true] h37 fun _ h39=>⟨kd [],?_⟩
     refine g0 ?_
     refine enL ?_
     exact⟨r35,3,true,[99,108,111,115,105,110,103],_,om,(by rw[decide_eq_true om]),(lvF [.k 1 (pV r10),.k 3 (pV r35)]),h39⟩
    by_cases c40:st=3
    ·
     refine lw (.agg #[.string (St [114,101,108,101,97,115,101,100]),iV 3,.bool false]) (fun _=>law_index (t:=541) (x:=Ot 19) (y:=Ot 21) (z:=st) (cs:= #[.string (St []),iV 0,.bool false,.string (St [108,105,118,101]),iV 0,.bool false,.string (St [99,108,111,115,105,110,103]),iV 3,.bool true,.string (St [114,101,108,101,97,115,101,100]),iV 3,.bool false,.string (St [113,117,97,114,97,110,116,105,110,101]),iV 3,.bool false]) kr underlying541 underlying540 3 kr kr kr 3 om dc (by rfl) _)<|nG (fun q_=>pV q_) 540 [.string (St []),iV 0,.bool false] h27 (fun r41 _ h43=>⟨kd [rd 0 2 1 3 1 h43],?_⟩)
     refine sB [.string (St [114,101,108,101,97,115,101,100]),iV 3,.bool false] h43 fun _ h45=>⟨kd [],?_⟩
     refine g0 ?_
     refine enL ?_
     exact⟨r41,3,false,[114,101,108,101,97,115,101,100],_,om,(by rw[decide_eq_false om]),(lvF [.k 1 (pV r10),.k 3 (pV r41)]),h45⟩
    refine lw (.agg #[.string (St [113,117,97,114,97,110,116,105,110,101]),iV 3,.bool false]) (fun _=>law_index (t:=541) (x:=Ot 19) (y:=Ot 21) (z:=st) (cs:= #[.string (St []),iV 0,.bool false,.string (St [108,105,118,101]),iV 0,.bool false,.string (St [99,108,111,115,105,110,103]),iV 3,.bool true,.string (St [114,101,108,101,97,115,101,100]),iV 3,.bool false,.string (St [113,117,97,114,97,110,116,105,110,101]),iV 3,.bool false]) kr underlying541 underlying540 3 kr kr kr 4 om dc (by rfl) _)<|nG (fun q_=>pV q_) 540 [.string (St []),iV 0,.bool false] h27 (fun r46 _ h48=>⟨kd [rd 0 2 1 3 1 h48],?_⟩)
    refine sB [.string (St [113,117,97,114,97,110,116,105,110,101]),iV 3,.bool false] h48 fun _ h50=>⟨kd [],?_⟩
    refine g0 ?_
    refine enL ?_
    exact⟨r46,3,false,[113,117,97,114,97,110,116,105,110,101],_,om,(by rw[decide_eq_false om]),(lvF [.k 1 (pV r10),.k 3 (pV r46)]),h50⟩
   refine nG (fun q_=>pV q_) 540 [.string (St []),iV 0,.bool false] h25 (fun r51 _ h53=>⟨kd [rd 0 2 1 3 1 h53],?_⟩)
   refine cw0 call431 shapes_ht h53 fun _ h55=>⟨kd [rd 0 2 1 3 1 h55],?_⟩
   by_cases c56:st=1
   ·
    refine lw (.agg #[.string (St [108,105,118,101]),iV 0,.bool false]) (fun _=>law_index (t:=541) (x:=Ot 19) (y:=Ot 21) (z:=st) (cs:= #[.string (St []),iV 0,.bool false,.string (St [108,105,118,101]),iV 0,.bool false,.string (St [99,108,111,115,105,110,103]),iV 3,.bool true,.string (St [114,101,108,101,97,115,101,100]),iV 3,.bool false,.string (St [113,117,97,114,97,110,116,105,110,101]),iV 3,.bool false]) kr underlying541 underlying540 3 kr kr kr 1 om dc (by rfl) _)<|sB [.string (St [108,105,118,101]),iV 0,.bool false] h55 fun _ h58=>⟨kd [],?_⟩
    refine g0 ?_
    refine enL ?_
    exact⟨r51,0,false,[108,105,118,101],_,om,(by rw[decide_eq_false om]),(lvF [.k 1 (pV r10),.k 3 (pV r51)]),h58⟩
   by_cases c59:st=2
   ·
    refine lw (.agg #[.string (St [99,108,111,115,105,110,103]),iV 3,.bool true]) (fun _=>law_index (t:=541) (x:=Ot 19) (y:=Ot 21) (z:=st) (cs:= #[.string (St []),iV 0,.bool false,.string (St [108,105,118,101]),iV 0,.bool false,.string (St [99,108,111,115,105,110,103]),iV 3,.bool true,.string (St [114,101,108,101,97,115,101,100]),iV 3,.bool false,.string (St [113,117,97,114,97,110,116,105,110,101]),iV 3,.bool false]) kr underlying541 underlying540 3 kr kr kr 2 om dc (by rfl) _)<|sB [.string (St [99,108,111,115,105,110,103]),iV 3,.bool true] h55 fun _ h61=>⟨kd [],?_⟩
    refine g0 ?_
    refine enL ?_
    exact⟨r51,3,true,[99,108,111,115,105,110,103],_,om,(by rw[decide_eq_true om]),(lvF [.k 1 (pV r10),.k 3 (pV r51)]),h61⟩
   by_cases c62:st=3
   ·
    refine lw (.agg #[.string (St [114,101,108,101,97,115,101,100]),iV 3,.bool false]) (fun _=>law_index (t:=541) (x:=Ot 19) (y:=Ot 21) (z:=st) (cs:= #[.string (St []),iV 0,.bool false,.string (St [108,105,118,101]),iV 0,.bool false,.string (St [99,108,111,115,105,110,103]),iV 3,.bool true,.string (St [114,101,108,101,97,115,101,100]),iV 3,.bool false,.string (St [113,117,97,114,97,110,116,105,110,101]),iV 3,.bool false]) kr underlying541 underlying540 3 kr kr kr 3 om dc (by rfl) _)<|sB [.string (St [114,101,108,101,97,115,101,100]),iV 3,.bool false] h55 fun _ h64=>⟨kd [],?_⟩
    refine g0 ?_
    refine enL ?_
    exact⟨r51,3,false,[114,101,108,101,97,115,101,100],_,om,(by rw[decide_eq_false om]),(lvF [.k 1 (pV r10),.k 3 (pV r51)]),h64⟩
   refine lw (.agg #[.string (St [113,117,97,114,97,110,116,105,110,101]),iV 3,.bool false]) (fun _=>law_index (t:=541) (x:=Ot 19) (y:=Ot 21) (z:=st) (cs:= #[.string (St []),iV 0,.bool false,.string (St [108,105,118,101]),iV 0,.bool false,.string (St [99,108,111,115,105,110,103]),iV 3,.bool true,.string (St [114,101,108,101,97,115,101,100]),iV 3,.bool false,.string (St [113,117,97,114,97,110,116,105,110,101]),iV 3,.bool false]) kr underlying541 underlying540 3 kr kr kr 4 om dc (by rfl) _)<|sB [.string (St [113,117,97,114,97,110,116,105,110,101]),iV 3,.bool false] h55 fun _ h66=>⟨kd [],?_⟩
   refine g0 ?_
   refine enL ?_
   exact⟨r51,3,false,[113,117,97,114,97,110,116,105,110,101],_,om,(by rw[decide_eq_false om]),(lvF [.k 1 (pV r10),.k 3 (pV r51)]),h66⟩
  rintro a67 w68 ⟨rb,hi,bb,wd,lr70,hlh_,hg_,rfl,h69⟩
  refine ga<|go [rd 4 1 0 1 1 h69,.s 4 2] ?_
  by_cases c71:1<hi
  ·
   refine go [.v 4 2 (⟨iV (if 1<hi then 1 else hi),iV 1,(ov_int (if_pos om))⟩),rd 5 1 1 4 1 h69,rd 5 4 0 1 1 h69] ?_
   by_cases c72:1≤why;rotate_left
   ·
    refine cl0 call387 (in_f why 1 hi om) h69 fun _ h105=>g0 ?_
    exact en (.bool false) [] ⟨_,_,rfl,⟨by rw[decide_eq_false (by unfold posP;omega)],rfl⟩,h105.b.t1⟩
   by_cases c73:why≤hi;rotate_left
   ·
    refine cl0 call387 (in_f why 1 hi om) h69 fun _ h102=>g0 ?_
    exact en (.bool false) [] ⟨_,_,rfl,⟨by rw[decide_eq_false (by unfold posP;omega)],rfl⟩,h102.b.t1⟩
   refine cl0 call387 (in_t why 1 hi om) h69 fun _ h75=>go [rd 5 8 1 5 1 h75] ?_
   by_cases c76:0≤tr;rotate_left
   ·
    refine cl0 call387 (in_f tr 0 10000 om) h75 fun _ h99=>g0 ?_
    exact en (.bool false) [] ⟨_,_,rfl,⟨by rw[decide_eq_false (by unfold posP;omega)],rfl⟩,h99.b.t1⟩
   by_cases c77:tr≤10000;rotate_left
   ·
    refine cl0 call387 (in_f tr 0 10000 om) h75 fun _ h96=>g0 ?_
    exact en (.bool false) [] ⟨_,_,rfl,⟨by rw[decide_eq_false (by unfold posP;omega)],rfl⟩,h96.b.t1⟩
   refine cl0 call387 (in_t tr 0 10000 om) h75 fun _ h79=>go [rd 5 15 1 6 1 h79] ?_
   by_cases c80:0≤nx;rotate_left
   ·
    refine cl0 call388 (time_f nx om) h79 fun _ h93=>g0 ?_
    exact en (.bool false) [] ⟨_,_,rfl,⟨by rw[decide_eq_false (by unfold posP;omega)],rfl⟩,h93.b.t1⟩
   by_cases c81:nx≤1099511627776
   ·
    refine cl0 call388 (time_t nx om) h79 fun _ h83=>go [.s 5 20] ?_
    rcases Bool.eq_false_or_eq_true bb with cb84|cb84
    ·
     refine go [(rd 5 20 0 2 1 h83).b (⟨.bool bb,.bool true,(ov_b cb84)⟩)] ?_
     have hbb_:=of_decide_eq_true (hg_.symm.trans cb84)
     exact en (.bool true) [] ⟨_,_,rfl,⟨by rw[decide_eq_true (by unfold posP;omega)],rfl⟩,h83.b.t1⟩
    refine go [(rd 5 20 0 2 1 h83).b (⟨.bool bb,.bool false,(ov_b cb84)⟩),rd 5 23 1 6 1 h83,.s 5 24] ?_
    by_cases c86:nx=0
    ·
     refine go [.v 5 24 (qeT _ _ c86)] ?_
     have hbb_:=of_decide_eq_false (hg_.symm.trans cb84)
     exact en (.bool true) [] ⟨_,_,rfl,⟨by rw[decide_eq_true (by unfold posP;omega)],rfl⟩,h83.b.t1⟩
    refine go [.v 5 24 (qeF _ _ c86)] ?_
    have hbb_:=of_decide_eq_false (hg_.symm.trans cb84)
    exact en (.bool false) [] ⟨_,_,rfl,⟨by rw[decide_eq_false (by unfold posP;omega)],rfl⟩,h83.b.t1⟩
   refine cl0 call388 (time_f nx om) h79 fun _ h90=>g0 ?_
   exact en (.bool false) [] ⟨_,_,rfl,⟨by rw[decide_eq_false (by unfold posP;omega)],rfl⟩,h90.b.t1⟩
  refine go [.v 4 2 (⟨iV (if 1<hi then 1 else hi),iV hi,(ov_int (if_neg om))⟩),rd 5 1 1 4 1 h69,rd 5 4 0 1 1 h69] ?_
  by_cases c107:hi≤why;rotate_left
  ·
   refine cl0 call387 (in_f why hi hi om) h69 fun _ h140=>g0 ?_
   exact en (.bool false) [] ⟨_,_,rfl,⟨by rw[decide_eq_false (by unfold posP;omega)],rfl⟩,h140.b.t1⟩
  by_cases c108:why≤hi;rotate_left
  ·
   refine cl0 call387 (in_f why hi hi om) h69 fun _ h137=>g0 ?_
   exact en (.bool false) [] ⟨_,_,rfl,⟨by rw[decide_eq_false (by unfold posP;omega)],rfl⟩,h137.b.t1⟩
  refine cl0 call387 (in_t why hi hi om) h69 fun _ h110=>go [rd 5 8 1 5 1 h110,.v 5 10 (oIr (10000*hi))] ?_
  by_cases c111:0≤tr;rotate_left
  ·
   refine cl0 call387 (in_f tr 0 (10000*hi) om) h110 fun _ h134=>g0 ?_
   exact en (.bool false) [] ⟨_,_,rfl,⟨by rw[decide_eq_false (by unfold posP;omega)],rfl⟩,h134.b.t1⟩
  by_cases c112:tr≤10000*hi;rotate_left
  ·
   refine cl0 call387 (in_f tr 0 (10000*hi) om) h110 fun _ h131=>g0 ?_
   exact en (.bool false) [] ⟨_,_,rfl,⟨by rw[decide_eq_false (by unfold posP;omega)],rfl⟩,h131.b.t1⟩
  refine cl0 call387 (in_t tr 0 (10000*hi) om) h110 fun _ h114=>go [rd 5 15 1 6 1 h114] ?_
  by_cases c115:0≤nx;rotate_left
  ·
   refine cl0 call388 (time_f nx om) h114 fun _ h128=>g0 ?_
   exact en (.bool false) [] ⟨_,_,rfl,⟨by rw[decide_eq_false (by unfold posP;omega)],rfl⟩,h128.b.t1⟩
  by_cases c116:nx≤1099511627776
  ·
   refine cl0 call388 (time_t nx om) h114 fun _ h118=>go [.s 5 20] ?_
   rcases Bool.eq_false_or_eq_true bb with cb119|cb119
   ·
    refine go [(rd 5 20 0 2 1 h118).b (⟨.bool bb,.bool true,(ov_b cb119)⟩)] ?_
    have hbb_:=of_decide_eq_true (hg_.symm.trans cb119)
    exact en (.bool true) [] ⟨_,_,rfl,⟨by rw[decide_eq_true (by unfold posP;omega)],rfl⟩,h118.b.t1⟩
   refine go [(rd 5 20 0 2 1 h118).b (⟨.bool bb,.bool false,(ov_b cb119)⟩),rd 5 23 1 6 1 h118,.s 5 24] ?_
   by_cases c121:nx=0
   ·
    refine go [.v 5 24 (qeT _ _ c121)] ?_
    have hbb_:=of_decide_eq_false (hg_.symm.trans cb119)
    exact en (.bool true) [] ⟨_,_,rfl,⟨by rw[decide_eq_true (by unfold posP;omega)],rfl⟩,h118.b.t1⟩
   refine go [.v 5 24 (qeF _ _ c121)] ?_
   have hbb_:=of_decide_eq_false (hg_.symm.trans cb119)
   exact en (.bool false) [] ⟨_,_,rfl,⟨by rw[decide_eq_false (by unfold posP;omega)],rfl⟩,h118.b.t1⟩
  refine cl0 call388 (time_f nx om) h114 fun _ h125=>g0 ?_
  exact en (.bool false) [] ⟨_,_,rfl,⟨by rw[decide_eq_false (by unfold posP;omega)],rfl⟩,h125.b.t1⟩
 refine cl0 call273 (couter_no x y z om om om) h12 fun _ h155=>g0 ?_
 exact en (.bool false) [] ⟨_,_,rfl,⟨by rw[decide_eq_false (by unfold posP;omega)],rfl⟩,h155.a.t1⟩
theorem rchk_ht(x y z st why tr nx:Int)(L:List UInt8)(hz0:0≤z)(hz1:z≤4294967295)(hm:L.length≤1099511627776):HQ 352 [.agg #[iV x,iV y,uV z,iV st,iV why,iV tr,iV nx,.string (St L)]] [] (iV (resE x y z st why tr nx L)) []:=by
 refine hiS func352 ntmps352 fun g w0 R h0=>g0<|nP 226 [iV x,iV y,uV z,iV st,iV why,iV tr,iV nx,.string (St L)] h0 (fun _ _ h12=> ?_)
 refine go [rd 1 0 0 0 8 h12] ?_
 rcases Bool.eq_false_or_eq_true (decide (posP x y z st why tr nx)) with cb13|cb13
 ·
  refine cl0 call401 (by have h_:=poss_ht x y z st why tr nx L om om;rw[cb13] at h_;exact h_) h12 fun _ h15=> ?_
  refine go [rd 3 1 0 7 1 h15]<|cl0 call131 (tag_ht L om) h15 fun _ h17=>g0 ?_
  exact en (iV (tagE L)) [] ⟨_,_,rfl,⟨by unfold resE;rw[if_pos (of_decide_eq_true cb13)],rfl⟩,h17.a.t1⟩
 refine cl0 call401 (by have h_:=poss_ht x y z st why tr nx L om om;rw[cb13] at h_;exact h_) h12 fun _ h20=> ?_
 refine g0 ?_
 exact en (iV 2) [] ⟨_,_,rfl,⟨by unfold resE;rw[if_neg (of_decide_eq_false cb13)],rfl⟩,h20.a.t1⟩
theorem rnew_ok(x y z:Int)(L:List UInt8)(hz0:0≤z)(hz1:z≤4294967295)(hm:L.length≤1099511627776)(ho:1≤x∧x≤3∧0≤y∧y≤63∧1≤z)(ht:tagE L=0):HQ 274 [.agg #[iV x,iV y,uV z],.string (St L)] [] (.tuple #[.agg #[iV x,iV y,uV z,iV 1,iV 0,iV 0,iV 0,.string (St L)],iV 0]) []:=by
 refine hiS func274 ntmps274 fun g w0 R h0=>g0<|nP 48 [iV x,iV y,uV z] h0 (fun _ _ h12=> ?_)
 refine nP 226 [iV 0,iV 0,uV 0,iV 0,iV 0,iV 0,iV 0,.string (St [])] h12 (fun _ _ h15=> ?_)
 refine go [rd 1 0 1 0 3 h15]<|nP 226 [iV 0,iV 0,uV 0,iV 0,iV 0,iV 0,iV 0,.string (St [])] h15 (fun _ _ h18=> ?_)
 refine sA [iV x,iV y,uV z,iV 1,iV 0,iV 0,iV 0,.string (St L)] h18 fun _ h20=>go [rd 2 0 0 0 8 h20]<|cl0 call352 (by have h_:=rchk_ht x y z 1 0 0 0 L om om om;rw[show resE x y z 1 0 0 0 L=0 from (if_pos (by unfold posP;omega)).trans (show tagE L=0 from by omega)] at h_;exact h_) h20 fun _ h22=> ?_
 have h23:=h22.a.t4
 refine go [rd 5 0 0 0 8 h22]<|sA [iV x,iV y,uV z,iV 1,iV 0,iV 0,iV 0,.string (St L)] h23 fun _ h25=>g0 ?_
 exact enR _ [rd 0 0 0 0 8 h25] h25.c.t1
theorem rnew_tag(x y z:Int)(L:List UInt8)(hz0:0≤z)(hz1:z≤4294967295)(hm:L.length≤1099511627776)(ho:1≤x∧x≤3∧0≤y∧y≤63∧1≤z)(ht: ¬tagE L=0):HQ 274 [.agg #[iV x,iV y,uV z],.string (St L)] [] (.tuple #[.agg #[iV 0,iV 0,uV 0,iV 0,iV 0,iV 0,iV 0,.string (St [])],iV 16]) []:=by
 refine hiS func274 ntmps274 fun g w0 R h0=>g0<|nP 48 [iV x,iV y,uV z] h0 (fun _ _ h12=> ?_)
 refine nP 226 [iV 0,iV 0,uV 0,iV 0,iV 0,iV 0,iV 0,.string (St [])] h12 (fun _ _ h15=> ?_)
 refine go [rd 1 0 1 0 3 h15]<|nP 226 [iV 0,iV 0,uV 0,iV 0,iV 0,iV 0,iV 0,.string (St [])] h15 (fun _ _ h18=> ?_)
 refine sA [iV x,iV y,uV z,iV 1,iV 0,iV 0,iV 0,.string (St L)] h18 fun _ h20=>go [rd 2 0 0 0 8 h20]<|cl0 call352 (by have h_:=rchk_ht x y z 1 0 0 0 L om om om;rw[show resE x y z 1 0 0 0 L=16 from (if_pos (by unfold posP;omega)).trans (show tagE L=16 from by have b:=tagE_or L;omega)] at h_;exact h_) h20 fun _ h22=> ?_
 have h23:=h22.a.t4
 refine g0<|sA [iV 0,iV 0,uV 0,iV 0,iV 0,iV 0,iV 0,.string (St [])] h23 fun _ h25=>g0 ?_
 exact enR _ [rd 0 0 0 0 8 h25] h25.c.t1
theorem rnew_no(x y z:Int)(L:List UInt8)(hz0:0≤z)(hz1:z≤4294967295)(hm:L.length≤1099511627776)(ho: ¬(1≤x∧x≤3∧0≤y∧y≤63∧1≤z)):HQ 274 [.agg #[iV x,iV y,uV z],.string (St L)] [] (.tuple #[.agg #[iV 0,iV 0,uV 0,iV 0,iV 0,iV 0,iV 0,.string (St [])],iV 2]) []:=by
 refine hiS func274 ntmps274 fun g w0 R h0=>g0<|nP 48 [iV x,iV y,uV z] h0 (fun _ _ h12=> ?_)
 refine nP 226 [iV 0,iV 0,uV 0,iV 0,iV 0,iV 0,iV 0,.string (St [])] h12 (fun _ _ h15=> ?_)
 refine go [rd 1 0 1 0 3 h15]<|nP 226 [iV 0,iV 0,uV 0,iV 0,iV 0,iV 0,iV 0,.string (St [])] h15 (fun _ _ h18=> ?_)
 refine sA [iV x,iV y,uV z,iV 1,iV 0,iV 0,iV 0,.string (St L)] h18 fun _ h20=>go [rd 2 0 0 0 8 h20]<|cl0 call352 (by have h_:=rchk_ht x y z 1 0 0 0 L om om om;rw[show resE x y z 1 0 0 0 L=2 from if_neg (by unfold posP;omega)] at h_;exact h_) h20 fun _ h22=> ?_
 have h23:=h22.a.t4
 refine g0<|sA [iV 0,iV 0,uV 0,iV 0,iV 0,iV 0,iV 0,.string (St [])] h23 fun _ h25=>g0 ?_
 exact enR _ [rd 0 0 0 0 8 h25] h25.c.t1
end Go.Proofs.YtcgkoffnknpgjaaGreatDoor
