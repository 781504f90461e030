/-
  Tags, as plain functions of the lists of their bytes. No program in sight.
-/
import Derived.Test.YtehlamblpekmkaaGreatDoorSrg
import Derived.Test.YtehlamblpekmkaaGreatDoorHq
import Derived.Test.YtehlamblpekmkaaGreatDoorBundle22
namespace Go.Proofs.YtehlamblpekmkaaGreatDoor
open Tryz
set_option maxHeartbeats 4000000
def badR(L:List UInt8)(p:Nat):Prop:=((dec L p).1=65533∧ ¬(L.drop p).take 3= [239,191,189])∨(dec L p).1<32∨(dec L p).1=127
instance (L:List UInt8) (p:Nat):Decidable (badR L p):=by unfold badR;infer_instance
def tagScan(L:List UInt8):Nat→Nat→Nat→Option Nat
 |0,_,n=>some n
 |f+1,p,n=>if L.length≤p then some n else if badR L p then none else tagScan L f (p+(dec L p).2) (n+1)
theorem scan_end{L:List UInt8}{f p n:Nat}(h:L.length≤p):tagScan L f p n=some n:=by
 cases f with
 |zero=>rfl
 |succ f=>exact if_pos h
theorem scan_bad{L:List UInt8}{f p n:Nat}(h:p<L.length)(hf:L.length≤p+f)(hb:badR L p):tagScan L f p n=none:=by
 cases f with
 |zero=>omega
 |succ f=>
  show (if L.length≤p then _ else _)=_
  rw[if_neg om,if_pos hb]
theorem scan_go{L:List UInt8}{f p n:Nat}(h:p<L.length)(hf:L.length≤p+f)(hb: ¬badR L p):tagScan L f p n=tagScan L (f-1) (p+(dec L p).2) (n+1):=by
 cases f with
 |zero=>omega
 |succ f=>
  show (if L.length≤p then _ else _)=_
  rw[if_neg om,if_neg hb]
  rfl
def scanN(L:List UInt8):Nat:=(tagScan L L.length 0 0).getD 0
def scanB(L:List UInt8):Bool:=(tagScan L L.length 0 0).isSome
def tagE(L:List UInt8):Int:=if 96<L.length then 16 else if scanB L=true∧1≤scanN L∧scanN L≤24 then 0 else 16
theorem tagE_or(L:List UInt8):tagE L=0∨tagE L=16:=by
 unfold tagE
 split
 · exact .inr rfl
 · split
   · exact .inl rfl
   · exact .inr rfl
theorem pfx_len{L:List UInt8}{a b c:UInt8}(h:L.take 3= [a,b,c]):3≤L.length:=by
 have:=congrArg List.length h
 rw[List.length_take] at this
 simp only[List.length_cons,List.length_nil] at this
 omega
theorem lpfx_t(L:List UInt8)(h:L.take 3= [239,191,189])(hm:L.length≤1099511627776):HQ 291 [.string (St L),.string (St [239,191,189])] [] (.bool true) []:=by
 have hl_:=pfx_len h
 refine hiS func291 ntmps291 fun g w0 R h0=>go [.v 1 1 (⟨iV ((St L).size:Int),iV (L.length:Int),(ov_int (st_len _))⟩),.v 1 3 (⟨iV ((St [239,191,189]).size:Int),iV 3,(ov_int rfl)⟩),.v 1 4 (oT ((L.length:Int)≥3)),.v 1 8 (⟨iV ((St [239,191,189]).size:Int),iV 3,(ov_int rfl)⟩),.s 1 9]<|lwP (.string (St (L.take 3))) (law_strTo (t:=9) (x:=Ot 11) (y:=Ot 13) (L:=L) (z:=3) kr underlying9 kr kr 3 om om _)<|go [.s 1 11]<|lwP (.bool true) (law_eqStr (t:=9) (x:=Ot 14) (y:=Ot 15) (a:=(L.take 3)) (b:= [239,191,189]) kr kr kr true (decide_eq_true h) _)<|g0 ?_
 exact enR _ [] h0
theorem lpfx_f(L:List UInt8)(h: ¬L.take 3= [239,191,189])(hm:L.length≤1099511627776):HQ 291 [.string (St L),.string (St [239,191,189])] [] (.bool false) []:=by
 refine hiS func291 ntmps291 fun g w0 R h0=>go [.v 1 1 (⟨iV ((St L).size:Int),iV (L.length:Int),(ov_int (st_len _))⟩),.v 1 3 (⟨iV ((St [239,191,189]).size:Int),iV 3,(ov_int rfl)⟩),.s 1 4] ?_
 by_cases c10:(L.length:Int)≥3
 ·
  refine go [.v 1 4 (oT _ c10),.v 1 8 (⟨iV ((St [239,191,189]).size:Int),iV 3,(ov_int rfl)⟩),.s 1 9]<|lwP (.string (St (L.take 3))) (law_strTo (t:=9) (x:=Ot 11) (y:=Ot 13) (L:=L) (z:=3) kr underlying9 kr kr 3 om om _)<|go [.s 1 11]<|lwP (.bool false) (law_eqStr (t:=9) (x:=Ot 14) (y:=Ot 15) (a:=(L.take 3)) (b:= [239,191,189]) kr kr kr false (decide_eq_false h) _)<|g0 ?_
  exact enR _ [] h0
 refine go [.v 1 4 (oF _ c10)] ?_
 exact enR _ [] h0
theorem pfx_t(L:List UInt8)(h:L.take 3= [239,191,189])(hm:L.length≤1099511627776):HQ 284 [.string (St L),.string (St [239,191,189])] [] (.bool true) []:=by
 have hl_:=pfx_len h
 refine hiS func284 ntmps284 fun g w0 R h0=>g0<|cl0 call291 (lpfx_t L (by assumption) om) h0 fun _ h11=>g0 ?_
 exact enR _ [] h11
theorem pfx_f(L:List UInt8)(h: ¬L.take 3= [239,191,189])(hm:L.length≤1099511627776):HQ 284 [.string (St L),.string (St [239,191,189])] [] (.bool false) []:=by
 refine hiS func284 ntmps284 fun g w0 R h0=>g0<|cl0 call291 (lpfx_f L (by assumption) om) h0 fun _ h11=>g0 ?_
 exact enR _ [] h11
theorem rune_t(c:Int)(h:32≤c∧c≠127):HQ 252 [.int .i32 c] [] (.bool true) []:=by
 refine hiS func252 ntmps252 fun g w0 R h0=>go [.v 1 1 (oT (c≥32)),.v 1 4 (qnT c 127)] ?_
 exact enR _ [] h0
theorem rune_f(c:Int)(h:c<32∨c=127):HQ 252 [.int .i32 c] [] (.bool false) []:=by
 refine hiS func252 ntmps252 fun g w0 R h0=>go [.s 1 1] ?_
 by_cases c10:c≥32
 ·
  refine go [.v 1 1 (oT _ c10),.v 1 4 (qnF c 127)] ?_
  exact enR _ [] h0
 refine go [.v 1 1 (oF _ c10)] ?_
 exact enR _ [] h0
theorem tall_ht(L:List UInt8)(hm:L.length≤1099511627776):HQ 251 [.string (St L),.func (Fn.func 252) #[] #[]] [] (.tuple #[iV (scanN L:Int),.bool (scanB L)]) []:=by
 refine hiS func251 ntmps251 fun g w0 R h0=>g0 ?_
 refine actG ?_
 refine as_rangeStr (t:=9) (d:=10) (x:=Ot 9) (L:=L) kr kr rfl underlying9 kr h0 ?_
 intro r10 _ h12
 refine nxA<|g0 ?_
 refine lpS (fun mz_ a w=> ∃p:Nat,∃n:Nat,∃f:Nat,∃lr:Fr,mz_=L.length-p∧(n≤p)∧(L.length≤p+f)∧(tagScan L L.length 0 0=tagScan L f p n)∧a=mk 33 (([(0,.string (St L)),(1,.func (Fn.func 252) #[] #[]),(6,iV (n:Int)),(10,pV r10)]:Fr)++lr)∧sat g w [Si r10 L p,R]) (L.length-0) ⟨0,0,L.length,_,rfl,(Nat.le_refl _),om,rfl,(lvF [.k 0 (.string (St L)),.k 1 (.func (Fn.func 252) #[] #[]),.o 6 (oJ .i64 0 (0:Int)),.k 10 (pV r10)]),h12⟩ ?_
 rintro m14 a15 w16 ⟨p,n,f,lr13,rfl,hn_,hf_,ht_,rfl,h17⟩
 refine ga<|g0 ?_
 by_cases c18:p<L.length
 ·
  have hd19:=dec_pos (L:=L) (p:=p) om;have hd20:=dec_max L p
  refine actG ?_
  refine as_next (d:=11) (x:=Ot 10) (r:=r10) (L:=L) (p:=p) kr kr rfl kr h17 om om ?_
  intro _ h22
  refine nxA<|go [.s 5 1] ?_
  by_cases c23:(((dec L p).1:Nat):Int)=65533
  ·
   refine go [.v 5 1 (qeT _ _ c23),.s 5 5]<|lwP (.string (St (L.drop p))) (law_strFrom (t:=9) (x:=Ot 18) (y:=Ot 19) (L:=L) (z:=(p:Int)) kr underlying9 kr kr p om om _) ?_
   by_cases c24:(L.drop p).take 3=([239,191,189]:List UInt8)
   ·
    refine cl0 call284 (pfx_t (L.drop p) (by assumption) (by rw[List.length_drop];omega)) h22 fun _ h26=> ?_
    refine g0<|cl0 call252 (rune_t (((dec L p).1:Nat):Int) om) h26 fun _ h28=>go [.v 7 1 (oIr ((n:Int)+1))] ?_
    refine enL ?_
    have hg_: ¬badR L p:=by
     rintro(⟨h1_,h2_⟩|h1_|h1_)<;>first|omega|exact absurd (by assumption) h2_
    change ∃n',n'<_∧_
    refine⟨(L.length-(p+((dec L p).2))),by omega,p+((dec L p).2),(n+1),(f-1),_,rfl,om,om,(ht_.trans (scan_go om hf_ hg_)),(lvF [.k 0 (.string (St L)),.k 1 (.func (Fn.func 252) #[] #[]),.o 6 (oJ .i64 ((n:Int)+1) (((n+1):Nat):Int)),.k 10 (pV r10)]),h28⟩
   refine cl0 call284 (pfx_f (L.drop p) (by assumption) (by rw[List.length_drop];omega)) h22 fun _ h30=> ?_
   refine g0<|up<|g0 ?_
   have hb_:badR L p:=by
    first|exact .inr (.inl om)|exact .inr (.inr om)|exact .inl ⟨by omega,by assumption⟩
   have hs_:tagScan L L.length 0 0=none:=ht_.trans (scan_bad om hf_ hb_)
   exact en (.tuple #[iV 0,.bool false]) [] ⟨_,_,rfl,⟨by unfold scanN scanB;rw[hs_];rfl,rfl⟩,h30.a.t1⟩
  refine go [.v 5 1 (qeF _ _ c23)] ?_
  by_cases c32:32≤(((dec L p).1:Nat):Int)
  ·
   by_cases c33:(((dec L p).1:Nat):Int)=127
   ·
    refine cl0 call252 (rune_f (((dec L p).1:Nat):Int) om) h22 fun _ h35=>g0<|up<|g0 ?_
    have hb_:badR L p:=by
     first|exact .inr (.inl om)|exact .inr (.inr om)|exact .inl ⟨by omega,by assumption⟩
    have hs_:tagScan L L.length 0 0=none:=ht_.trans (scan_bad om hf_ hb_)
    exact en (.tuple #[iV 0,.bool false]) [] ⟨_,_,rfl,⟨by unfold scanN scanB;rw[hs_];rfl,rfl⟩,h35.a.t1⟩
   refine cl0 call252 (rune_t (((dec L p).1:Nat):Int) om) h22 fun _ h38=>go [.v 7 1 (oIr ((n:Int)+1))] ?_
   refine enL ?_
   have hg_: ¬badR L p:=by
    rintro(⟨h1_,h2_⟩|h1_|h1_)<;>first|omega|exact absurd (by assumption) h2_
   change ∃n',n'<_∧_
   refine⟨(L.length-(p+((dec L p).2))),by omega,p+((dec L p).2),(n+1),(f-1),_,rfl,om,om,(ht_.trans (scan_go om hf_ hg_)),(lvF [.k 0 (.string (St L)),.k 1 (.func (Fn.func 252) #[] #[]),.o 6 (oJ .i64 ((n:Int)+1) (((n+1):Nat):Int)),.k 10 (pV r10)]),h38⟩
  refine cl0 call252 (rune_f (((dec L p).1:Nat):Int) om) h22 fun _ h40=>g0<|up<|g0 ?_
  have hb_:badR L p:=by
   first|exact .inr (.inl om)|exact .inr (.inr om)|exact .inl ⟨by omega,by assumption⟩
  have hs_:tagScan L L.length 0 0=none:=ht_.trans (scan_bad om hf_ hb_)
  exact en (.tuple #[iV 0,.bool false]) [] ⟨_,_,rfl,⟨by unfold scanN scanB;rw[hs_];rfl,rfl⟩,h40.a.t1⟩
 refine actG ?_
 refine as_nextEnd (d:=11) (x:=Ot 10) (r:=r10) (L:=L) (p:=p) kr kr rfl kr (j:=0) h17 rfl om ?_
 refine nxA<|g0<|up<|g0 ?_
 have hs_:tagScan L L.length 0 0=some n:=ht_.trans (scan_end om)
 exact en (.tuple #[iV (n:Int),.bool true]) [] ⟨_,_,rfl,⟨by unfold scanN scanB;rw[hs_];rfl,rfl⟩,h17.a.t1⟩
theorem tag_ht(L:List UInt8)(hm:L.length≤1099511627776):HQ 199 [.string (St L)] [] (iV (tagE L)) []:=by
 refine hiS func199 ntmps199 fun g w0 R h0=>go [.v 1 1 (⟨iV ((St L).size:Int),iV (L.length:Int),(ov_int (st_len _))⟩),.s 1 2] ?_
 by_cases c10:(L.length:Int)>96
 ·
  refine go [.v 1 2 (oT _ c10)] ?_
  exact en (iV 16) [] ⟨_,_,rfl,⟨by unfold tagE;rw[if_pos om],rfl⟩,h0⟩
 refine go [.v 1 2 (oF _ c10)] ?_
 rcases Bool.eq_false_or_eq_true (scanB L) with cb11|cb11
 ·
  refine cl0 call251 (by have h_:=tall_ht L om;rw[cb11] at h_;exact h_) h0 fun _ h13=> ?_
  refine go [.s 4 4] ?_
  by_cases c14:((scanN L:Nat):Int)<1
  ·
   refine go [.v 4 4 (oT _ c14)] ?_
   exact en (iV 16) [] ⟨_,_,rfl,⟨by unfold tagE;rw[if_neg om,if_neg (by rintro⟨h1_,h2_,h3_⟩;first|omega|simp_all)],rfl⟩,h13⟩
  refine go [.v 4 4 (oF _ c14),.s 4 8] ?_
  by_cases c15:((scanN L:Nat):Int)>24
  ·
   refine go [.v 4 8 (oT _ c15)] ?_
   exact en (iV 16) [] ⟨_,_,rfl,⟨by unfold tagE;rw[if_neg om,if_neg (by rintro⟨h1_,h2_,h3_⟩;first|omega|simp_all)],rfl⟩,h13⟩
  refine go [.v 4 8 (oF _ c15)] ?_
  exact en (iV 0) [] ⟨_,_,rfl,⟨by unfold tagE;rw[if_neg om,if_pos ⟨by assumption,by omega,by omega⟩],rfl⟩,h13⟩
 refine cl0 call251 (by have h_:=tall_ht L om;rw[cb11] at h_;exact h_) h0 fun _ h17=> ?_
 refine g0 ?_
 exact en (iV 16) [] ⟨_,_,rfl,⟨by unfold tagE;rw[if_neg om,if_neg (by rintro⟨h1_,h2_,h3_⟩;first|omega|simp_all)],rfl⟩,h17⟩
def posP(x y z st why tr nx:Int):Prop:=(1≤x∧x≤3∧0≤y∧y≤63∧1≤z)∧((st=1∧why=0∧tr=0∧nx=0)∨(st=2∧1≤why∧why≤3∧0≤tr∧tr≤10000∧0≤nx∧nx≤1099511627776)∨((st=3∨st=4)∧1≤why∧why≤3∧0≤tr∧tr≤10000∧nx=0))
instance (x y z st why tr nx:Int):Decidable (posP x y z st why tr nx):=by unfold posP;infer_instance
structure Rs where
 out:Ky
 st:Int
 why:Int
 tr:Int
 nx:Int
 tag:List UInt8
def eRs(r:Rs):List Value:= [.int .i64 r.out.1,.int .i64 r.out.2.1,.int .u32 r.out.2.2,.int .i64 r.st,.int .i64 r.why,.int .i64 r.tr,.int .i64 r.nx,.string (St r.tag)]
theorem eRs_ok:Enc 8 eRs:=⟨fun _=>rfl,fun x v hv=>by simp[eRs] at hv;rcases hv with rfl |rfl |rfl |rfl |rfl |rfl |rfl |rfl<;>rfl⟩
def resE(x y z st why tr nx:Int)(L:List UInt8):Int:=if posP x y z st why tr nx then tagE L else 2
theorem in_t(v lo hi:Int)(h:lo≤v∧v≤hi):HT prog 122 [iV v,iV lo,iV hi] [] (fun r K=>r= .bool true∧K= []):=by
 refine hiS func122 ntmps122 fun g w0 R h0=>go [.v 1 2 (oT (v≥lo)),.v 1 6 (oT (v≤hi))] ?_
 exact enR (.bool true) [] h0
theorem in_f(v lo hi:Int)(h:v<lo∨hi<v):HT prog 122 [iV v,iV lo,iV hi] [] (fun r K=>r= .bool false∧K= []):=by
 refine hiS func122 ntmps122 fun g w0 R h0=>go [.s 1 2] ?_
 by_cases c10:v≥lo
 ·
  refine go [.v 1 2 (oT _ c10),.v 1 6 (oF (v≤hi))] ?_
  exact enR (.bool false) [] h0
 refine go [.v 1 2 (oF _ c10)] ?_
 exact enR (.bool false) [] h0
theorem time_t(v:Int)(h:0≤v∧v≤1099511627776):HT prog 112 [iV v] [] (fun r K=>r= .bool true∧K= []):=by
 refine hiS func112 ntmps112 fun g w0 R h0=>g0<|cl0 call122 (in_t v 0 1099511627776 om) h0 fun _ h11=>g0 ?_
 exact enR (.bool true) [] h11
theorem time_f(v:Int)(h:v<0∨1099511627776<v):HT prog 112 [iV v] [] (fun r K=>r= .bool false∧K= []):=by
 refine hiS func112 ntmps112 fun g w0 R h0=>g0 ?_
 by_cases c10:0≤v
 ·
  refine cl0 call122 (in_f v 0 1099511627776 om) h0 fun _ h12=>g0 ?_
  exact enR (.bool false) [] h12
 refine cl0 call122 (in_f v 0 1099511627776 om) h0 fun _ h14=>g0 ?_
 exact enR (.bool false) [] h14
theorem shapes_ht:HQ 250 [] [] (.agg #[.string (St []),iV 0,.bool false,.string (St [108,105,118,101]),iV 0,.bool false,.string (St [99,108,111,115,105,110,103]),iV 3,.bool true,.string (St [114,101,108,101,97,115,101,100]),iV 3,.bool false,.string (St [113,117,97,114,97,110,116,105,110,101]),iV 3,.bool false]) []:=by
 refine hiS func250 ntmps250 fun g w0 R h0=>g0<|nP 339 [.string (St []),iV 0,.bool false,.string (St []),iV 0,.bool false,.string (St []),iV 0,.bool false,.string (St []),iV 0,.bool false,.string (St []),iV 0,.bool false] h0 (fun _ _ h12=> ?_)
 refine g0<|sA [.string (St []),iV 0,.bool false,.string (St [108,105,118,101]),iV 0,.bool false,.string (St [99,108,111,115,105,110,103]),iV 3,.bool true,.string (St [114,101,108,101,97,115,101,100]),iV 3,.bool false,.string (St [113,117,97,114,97,110,116,105,110,101]),iV 3,.bool false] h12 fun _ h14=>g0 ?_
 exact enR _ [rd 0 0 0 0 15 h14] h14.a.t1
theorem poss_ht(x y z st why tr nx:Int)(L:List UInt8)(hz0:0≤z)(hz1:z≤4294967295):HQ 198 [.agg #[iV x,iV y,uV z,iV st,iV why,iV tr,iV nx,.string (St L)]] [] (.bool (decide (posP x y z st why tr nx))) []:=by
 refine hiS func198 ntmps198 fun g w0 R h0=>g0<|nP 82 [iV x,iV y,uV z,iV st,iV why,iV tr,iV nx,.string (St L)] h0 (fun r10 _ h12=> ?_)
 refine go [rd 1 1 0 0 3 h12] ?_
 by_cases c13:1≤x
 ·
  by_cases c14:x≤3;rotate_left
  ·
   refine cl0 call192 (couter_no x y z om om om) h12 fun _ h152=>g0 ?_
   exact en (.bool false) [] ⟨_,_,rfl,⟨by rw[decide_eq_false (by unfold posP;omega)],rfl⟩,h152.a.t1⟩
  by_cases c15:0≤y;rotate_left
  ·
   refine cl0 call192 (couter_no x y z om om om) h12 fun _ h149=>g0 ?_
   exact en (.bool false) [] ⟨_,_,rfl,⟨by rw[decide_eq_false (by unfold posP;omega)],rfl⟩,h149.a.t1⟩
  by_cases c16:y≤63;rotate_left
  ·
   refine cl0 call192 (couter_no x y z om om om) h12 fun _ h146=>g0 ?_
   exact en (.bool false) [] ⟨_,_,rfl,⟨by rw[decide_eq_false (by unfold posP;omega)],rfl⟩,h146.a.t1⟩
  by_cases c17:1≤z;rotate_left
  ·
   refine cl0 call192 (couter_no x y z om om om) h12 fun _ h143=>g0 ?_
   exact en (.bool false) [] ⟨_,_,rfl,⟨by rw[decide_eq_false (by unfold posP;omega)],rfl⟩,h143.a.t1⟩
  refine cl0 call192 (couter_ok x y z om om om) h12 fun _ h19=>go [rd 1 6 0 3 1 h19,.s 1 7] ?_
  by_cases c20:st<1
  ·
   refine go [.v 1 7 (oT _ c20)] ?_
   exact en (.bool false) [] ⟨_,_,rfl,⟨by rw[decide_eq_false (by unfold posP;omega)],rfl⟩,h19.a.t1⟩
  refine go [.v 1 7 (oF _ c20),rd 1 11 0 3 1 h19,.s 1 12] ?_
  by_cases c22:st>4
  ·
   refine go [.v 1 12 (oT _ c22)] ?_
   exact en (.bool false) [] ⟨_,_,rfl,⟨by rw[decide_eq_false (by unfold posP;omega)],rfl⟩,h19.a.t1⟩
  refine go [.v 1 12 (oF _ c22),.s 3 100000] ?_
  refine jnS (fun a w=> ∃rb:Nat,∃hi:Int,∃bb:Bool,∃wd:List UInt8,∃lr:Fr,((st=1∧hi=0)∨((st=2∨st=3∨st=4)∧hi=3))∧(bb=decide (st=2))∧a=mk 53 (([(1,pV r10),(3,pV rb)]:Fr)++lr)∧sat g w [Cl rb [.string (St wd),iV hi,.bool bb] 338,Cl r10 [iV x,iV y,uV z,iV st,iV why,iV tr,iV nx,.string (St L)] 82,R]) ?_ ?_
  ·
   refine g0<|dw (fls [1,2] (Tr.an2 0 (Tr.fl 3 (Tr.an 4 (Tr.an 5 Tr.nil))) 4 (Tr.an 0 (Tr.fl 3 (Tr.an 5 Tr.nil))))) h19 fun _ h25=>go [rd 3 2 0 3 1 h25] ?_
   refine br2 ?_ ?_
   ·
    refine cw0 call250 shapes_ht h25 fun _ h27=>⟨kd [rd 0 2 0 3 1 h27],?_⟩
    by_cases c28:st=1
    ·
     refine lw (.agg #[.string (St [108,105,118,101]),iV 0,.bool false]) (fun _=>law_index (t:=339) (x:=Ot 19) (y:=Ot 21) (z:=st) (cs:= #[.string (St []),iV 0,.bool false,.string (St [108,105,118,101]),iV 0,.bool false,.string (St [99,108,111,115,105,110,103]),iV 3,.bool true,.string (St [114,101,108,101,97,115,101,100]),iV 3,.bool false,.string (St [113,117,97,114,97,110,116,105,110,101]),iV 3,.bool false]) kr underlying339 underlying338 3 kr kr kr 1 om dc (by rfl) _)<|nG (fun q_=>pV q_) 338 [.string (St []),iV 0,.bool false] h27 (fun r29 _ h31=>⟨kd [rd 0 2 1 3 1 h31],?_⟩)
     refine sB [.string (St [108,105,118,101]),iV 0,.bool false] h31 fun _ h33=>⟨kd [],?_⟩
     refine g0 ?_
     refine enL ?_
     exact⟨r29,0,false,[108,105,118,101],_,om,(by rw[decide_eq_false om]),(lvF [.k 1 (pV r10),.k 3 (pV r29)]),h33⟩
    by_cases c34:st=2
    ·
     refine lw (.agg #[.string (St [99,108,111,115,105,110,103]),iV 3,.bool true]) (fun _=>law_index (t:=339) (x:=Ot 19) (y:=Ot 21) (z:=st) (cs:= #[.string (St []),iV 0,.bool false,.string (St [108,105,118,101]),iV 0,.bool false,.string (St [99,108,111,115,105,110,103]),iV 3,.bool true,.string (St [114,101,108,101,97,115,101,100]),iV 3,.bool false,.string (St [113,117,97,114,97,110,116,105,110,101]),iV 3,.bool false]) kr underlying339 underlying338 3 kr kr kr 2 om dc (by rfl) _)<|nG (fun q_=>pV q_) 338 [.string (St []),iV 0,.bool false] h27 (fun r35 _ h37=>⟨kd [rd 0 2 1 3 1 h37],?_⟩)
     refine sB [.string (St [99,108,111,115,105,110,103]),iV 3,.bool true] h37 fun _ h39=>⟨kd [],?_⟩
     refine g0 ?_
     refine enL ?_
     exact⟨r35,3,true,[99,108,111,115,105,110,103],_,om,(by rw[decide_eq_true om]),(lvF [.k 1 (pV r10),.k 3 (pV r35)]),h39⟩
    by_cases c40:st=3
    ·
     refine lw (.agg #[.string (St [114,101,108,101,97,115,101,100]),iV 3,.bool false]) (fun _=>law_index (t:=339) (x:=Ot 19) (y:=Ot 21) (z:=st) (cs:= #[.string (St []),iV 0,.bool false,.string (St [108,105,118,101]),iV 0,.bool false,.string (St [99,108,111,115,105,110,103]),iV 3,.bool true,.string (St [114,101,108,101,97,115,101,100]),iV 3,.bool false,.string (St [113,117,97,114,97,110,116,105,110,101]),iV 3,.bool false]) kr underlying339 underlying338 3 kr kr kr 3 om dc (by rfl) _)<|nG (fun q_=>pV q_) 338 [.string (St []),iV 0,.bool false] h27 (fun r41 _ h43=>⟨kd [rd 0 2 1 3 1 h43],?_⟩)
     refine sB [.string (St [114,101,108,101,97,115,101,100]),iV 3,.bool false] h43 fun _ h45=>⟨kd [],?_⟩
     refine g0 ?_
     refine enL ?_
     exact⟨r41,3,false,[114,101,108,101,97,115,101,100],_,om,(by rw[decide_eq_false om]),(lvF [.k 1 (pV r10),.k 3 (pV r41)]),h45⟩
    refine lw (.agg #[.string (St [113,117,97,114,97,110,116,105,110,101]),iV 3,.bool false]) (fun _=>law_index (t:=339) (x:=Ot 19) (y:=Ot 21) (z:=st) (cs:= #[.string (St []),iV 0,.bool false,.string (St [108,105,118,101]),iV 0,.bool false,.string (St [99,108,111,115,105,110,103]),iV 3,.bool true,.string (St [114,101,108,101,97,115,101,100]),iV 3,.bool false,.string (St [113,117,97,114,97,110,116,105,110,101]),iV 3,.bool false]) kr underlying339 underlying338 3 kr kr kr 4 om dc (by rfl) _)<|nG (fun q_=>pV q_) 338 [.string (St []),iV 0,.bool false] h27 (fun r46 _ h48=>⟨kd [rd 0 2 1 3 1 h48],?_⟩)
    refine sB [.string (St [113,117,97,114,97,110,116,105,110,101]),iV 3,.bool false] h48 fun _ h50=>⟨kd [],?_⟩
    refine g0 ?_
    refine enL ?_
    exact⟨r46,3,false,[113,117,97,114,97,110,116,105,110,101],_,om,(by rw[decide_eq_false om]),(lvF [.k 1 (pV r10),.k 3 (pV r46)]),h50⟩
   refine nG (fun q_=>pV q_) 338 [.string (St []),iV 0,.bool false] h25 (fun r51 _ h53=>⟨kd [rd 0 2 1 3 1 h53],?_⟩)
   refine cw0 call250 shapes_ht h53 fun _ h55=>⟨kd [rd 0 2 1 3 1 h55],?_⟩
   by_cases c56:st=1
   ·
    refine lw (.agg #[.string (St [108,105,118,101]),iV 0,.bool false]) (fun _=>law_index (t:=339) (x:=Ot 19) (y:=Ot 21) (z:=st) (cs:= #[.string (St []),iV 0,.bool false,.string (St [108,105,118,101]),iV 0,.bool false,.string (St [99,108,111,115,105,110,103]),iV 3,.bool true,.string (St [114,101,108,101,97,115,101,100]),iV 3,.bool false,.string (St [113,117,97,114,97,110,116,105,110,101]),iV 3,.bool false]) kr underlying339 underlying338 3 kr kr kr 1 om dc (by rfl) _)<|sB [.string (St [108,105,118,101]),iV 0,.bool false] h55 fun _ h58=>⟨kd [],?_⟩
    refine g0 ?_
    refine enL ?_
    exact⟨r51,0,false,[108,105,118,101],_,om,(by rw[decide_eq_false om]),(lvF [.k 1 (pV r10),.k 3 (pV r51)]),h58⟩
   by_cases c59:st=2
   ·
    refine lw (.agg #[.string (St [99,108,111,115,105,110,103]),iV 3,.bool true]) (fun _=>law_index (t:=339) (x:=Ot 19) (y:=Ot 21) (z:=st) (cs:= #[.string (St []),iV 0,.bool false,.string (St [108,105,118,101]),iV 0,.bool false,.string (St [99,108,111,115,105,110,103]),iV 3,.bool true,.string (St [114,101,108,101,97,115,101,100]),iV 3,.bool false,.string (St [113,117,97,114,97,110,116,105,110,101]),iV 3,.bool false]) kr underlying339 underlying338 3 kr kr kr 2 om dc (by rfl) _)<|sB [.string (St [99,108,111,115,105,110,103]),iV 3,.bool true] h55 fun _ h61=>⟨kd [],?_⟩
    refine g0 ?_
    refine enL ?_
    exact⟨r51,3,true,[99,108,111,115,105,110,103],_,om,(by rw[decide_eq_true om]),(lvF [.k 1 (pV r10),.k 3 (pV r51)]),h61⟩
   by_cases c62:st=3
   ·
    refine lw (.agg #[.string (St [114,101,108,101,97,115,101,100]),iV 3,.bool false]) (fun _=>law_index (t:=339) (x:=Ot 19) (y:=Ot 21) (z:=st) (cs:= #[.string (St []),iV 0,.bool false,.string (St [108,105,118,101]),iV 0,.bool false,.string (St [99,108,111,115,105,110,103]),iV 3,.bool true,.string (St [114,101,108,101,97,115,101,100]),iV 3,.bool false,.string (St [113,117,97,114,97,110,116,105,110,101]),iV 3,.bool false]) kr underlying339 underlying338 3 kr kr kr 3 om dc (by rfl) _)<|sB [.string (St [114,101,108,101,97,115,101,100]),iV 3,.bool false] h55 fun _ h64=>⟨kd [],?_⟩
    refine g0 ?_
    refine enL ?_
    exact⟨r51,3,false,[114,101,108,101,97,115,101,100],_,om,(by rw[decide_eq_false om]),(lvF [.k 1 (pV r10),.k 3 (pV r51)]),h64⟩
   refine lw (.agg #[.string (St [113,117,97,114,97,110,116,105,110,101]),iV 3,.bool false]) (fun _=>law_index (t:=339) (x:=Ot 19) (y:=Ot 21) (z:=st) (cs:= #[.string (St []),iV 0,.bool false,.string (St [108,105,118,101]),iV 0,.bool false,.string (St [99,108,111,115,105,110,103]),iV 3,.bool true,.string (St [114,101,108,101,97,115,101,100]),iV 3,.bool false,.string (St [113,117,97,114,97,110,116,105,110,101]),iV 3,.bool false]) kr underlying339 underlying338 3 kr kr kr 4 om dc (by rfl) _)<|sB [.string (St [113,117,97,114,97,110,116,105,110,101]),iV 3,.bool false] h55 fun _ h66=>⟨kd [],?_⟩
   refine g0 ?_
   refine enL ?_
   exact⟨r51,3,false,[113,117,97,114,97,110,116,105,110,101],_,om,(by rw[decide_eq_false om]),(lvF [.k 1 (pV r10),.k 3 (pV r51)]),h66⟩
  rintro a67 w68 ⟨rb,hi,bb,wd,lr70,hlh_,hg_,rfl,h69⟩
  refine ga<|go [rd 4 1 0 1 1 h69,.s 4 2] ?_
  by_cases c71:1<hi
  ·
   refine go [.v 4 2 (⟨iV (if 1<hi then 1 else hi),iV 1,(ov_int (if_pos om))⟩),rd 5 1 1 4 1 h69,rd 5 4 0 1 1 h69] ?_
   by_cases c72:1≤why;rotate_left
   ·
    refine cl0 call122 (in_f why 1 hi om) h69 fun _ h105=>g0 ?_
    exact en (.bool false) [] ⟨_,_,rfl,⟨by rw[decide_eq_false (by unfold posP;omega)],rfl⟩,h105.b.t1⟩
   by_cases c73:why≤hi;rotate_left
   ·
    refine cl0 call122 (in_f why 1 hi om) h69 fun _ h102=>g0 ?_
    exact en (.bool false) [] ⟨_,_,rfl,⟨by rw[decide_eq_false (by unfold posP;omega)],rfl⟩,h102.b.t1⟩
   refine cl0 call122 (in_t why 1 hi om) h69 fun _ h75=>go [rd 5 8 1 5 1 h75] ?_
   by_cases c76:0≤tr;rotate_left
   ·
    refine cl0 call122 (in_f tr 0 10000 om) h75 fun _ h99=>g0 ?_
    exact en (.bool false) [] ⟨_,_,rfl,⟨by rw[decide_eq_false (by unfold posP;omega)],rfl⟩,h99.b.t1⟩
   by_cases c77:tr≤10000;rotate_left
   ·
    refine cl0 call122 (in_f tr 0 10000 om) h75 fun _ h96=>g0 ?_
    exact en (.bool false) [] ⟨_,_,rfl,⟨by rw[decide_eq_false (by unfold posP;omega)],rfl⟩,h96.b.t1⟩
   refine cl0 call122 (in_t tr 0 10000 om) h75 fun _ h79=>go [rd 5 15 1 6 1 h79] ?_
   by_cases c80:0≤nx;rotate_left
   ·
    refine cl0 call112 (time_f nx om) h79 fun _ h93=>g0 ?_
    exact en (.bool false) [] ⟨_,_,rfl,⟨by rw[decide_eq_false (by unfold posP;omega)],rfl⟩,h93.b.t1⟩
   by_cases c81:nx≤1099511627776
   ·
    refine cl0 call112 (time_t nx om) h79 fun _ h83=>go [.s 5 20] ?_
    rcases Bool.eq_false_or_eq_true bb with cb84|cb84
    ·
     refine go [(rd 5 20 0 2 1 h83).b (⟨.bool bb,.bool true,(ov_b cb84)⟩)] ?_
     have hbb_:=of_decide_eq_true (hg_.symm.trans cb84)
     exact en (.bool true) [] ⟨_,_,rfl,⟨by rw[decide_eq_true (by unfold posP;omega)],rfl⟩,h83.b.t1⟩
    refine go [(rd 5 20 0 2 1 h83).b (⟨.bool bb,.bool false,(ov_b cb84)⟩),rd 5 23 1 6 1 h83,.s 5 24] ?_
    by_cases c86:nx=0
    ·
     refine go [.v 5 24 (qeT _ _ c86)] ?_
     have hbb_:=of_decide_eq_false (hg_.symm.trans cb84)
     exact en (.bool true) [] ⟨_,_,rfl,⟨by rw[decide_eq_true (by unfold posP;omega)],rfl⟩,h83.b.t1⟩
    refine go [.v 5 24 (qeF _ _ c86)] ?_
    have hbb_:=of_decide_eq_false (hg_.symm.trans cb84)
    exact en (.bool false) [] ⟨_,_,rfl,⟨by rw[decide_eq_false (by unfold posP;omega)],rfl⟩,h83.b.t1⟩
   refine cl0 call112 (time_f nx om) h79 fun _ h90=>g0 ?_
   exact en (.bool false) [] ⟨_,_,rfl,⟨by rw[decide_eq_false (by unfold posP;omega)],rfl⟩,h90.b.t1⟩
  refine go [.v 4 2 (⟨iV (if 1<hi then 1 else hi),iV hi,(ov_int (if_neg om))⟩),rd 5 1 1 4 1 h69,rd 5 4 0 1 1 h69] ?_
  by_cases c107:hi≤why;rotate_left
  ·
   refine cl0 call122 (in_f why hi hi om) h69 fun _ h140=>g0 ?_
   exact en (.bool false) [] ⟨_,_,rfl,⟨by rw[decide_eq_false (by unfold posP;omega)],rfl⟩,h140.b.t1⟩
  by_cases c108:why≤hi;rotate_left
  ·
   refine cl0 call122 (in_f why hi hi om) h69 fun _ h137=>g0 ?_
   exact en (.bool false) [] ⟨_,_,rfl,⟨by rw[decide_eq_false (by unfold posP;omega)],rfl⟩,h137.b.t1⟩
  refine cl0 call122 (in_t why hi hi om) h69 fun _ h110=>go [rd 5 8 1 5 1 h110,.v 5 10 (oIr (10000*hi))] ?_
  by_cases c111:0≤tr;rotate_left
  ·
   refine cl0 call122 (in_f tr 0 (10000*hi) om) h110 fun _ h134=>g0 ?_
   exact en (.bool false) [] ⟨_,_,rfl,⟨by rw[decide_eq_false (by unfold posP;omega)],rfl⟩,h134.b.t1⟩
  by_cases c112:tr≤10000*hi;rotate_left
  ·
   refine cl0 call122 (in_f tr 0 (10000*hi) om) h110 fun _ h131=>g0 ?_
   exact en (.bool false) [] ⟨_,_,rfl,⟨by rw[decide_eq_false (by unfold posP;omega)],rfl⟩,h131.b.t1⟩
  refine cl0 call122 (in_t tr 0 (10000*hi) om) h110 fun _ h114=>go [rd 5 15 1 6 1 h114] ?_
  by_cases c115:0≤nx;rotate_left
  ·
   refine cl0 call112 (time_f nx om) h114 fun _ h128=>g0 ?_
   exact en (.bool false) [] ⟨_,_,rfl,⟨by rw[decide_eq_false (by unfold posP;omega)],rfl⟩,h128.b.t1⟩
  by_cases c116:nx≤1099511627776
  ·
   refine cl0 call112 (time_t nx om) h114 fun _ h118=>go [.s 5 20] ?_
   rcases Bool.eq_false_or_eq_true bb with cb119|cb119
   ·
    refine go [(rd 5 20 0 2 1 h118).b (⟨.bool bb,.bool true,(ov_b cb119)⟩)] ?_
    have hbb_:=of_decide_eq_true (hg_.symm.trans cb119)
    exact en (.bool true) [] ⟨_,_,rfl,⟨by rw[decide_eq_true (by unfold posP;omega)],rfl⟩,h118.b.t1⟩
   refine go [(rd 5 20 0 2 1 h118).b (⟨.bool bb,.bool false,(ov_b cb119)⟩),rd 5 23 1 6 1 h118,.s 5 24] ?_
   by_cases c121:nx=0
   ·
    refine go [.v 5 24 (qeT _ _ c121)] ?_
    have hbb_:=of_decide_eq_false (hg_.symm.trans cb119)
    exact en (.bool true) [] ⟨_,_,rfl,⟨by rw[decide_eq_true (by unfold posP;omega)],rfl⟩,h118.b.t1⟩
   refine go [.v 5 24 (qeF _ _ c121)] ?_
   have hbb_:=of_decide_eq_false (hg_.symm.trans cb119)
   exact en (.bool false) [] ⟨_,_,rfl,⟨by rw[decide_eq_false (by unfold posP;omega)],rfl⟩,h118.b.t1⟩
  refine cl0 call112 (time_f nx om) h114 fun _ h125=>g0 ?_
  exact en (.bool false) [] ⟨_,_,rfl,⟨by rw[decide_eq_false (by unfold posP;omega)],rfl⟩,h125.b.t1⟩
 refine cl0 call192 (couter_no x y z om om om) h12 fun _ h155=>g0 ?_
 exact en (.bool false) [] ⟨_,_,rfl,⟨by rw[decide_eq_false (by unfold posP;omega)],rfl⟩,h155.a.t1⟩
theorem rchk_ht(x y z st why tr nx:Int)(L:List UInt8)(hz0:0≤z)(hz1:z≤4294967295)(hm:L.length≤1099511627776):HQ 125 [.agg #[iV x,iV y,uV z,iV st,iV why,iV tr,iV nx,.string (St L)]] [] (iV (resE x y z st why tr nx L)) []:=by
 refine hiS func125 ntmps125 fun g w0 R h0=>g0<|nP 82 [iV x,iV y,uV z,iV st,iV why,iV tr,iV nx,.string (St L)] h0 (fun _ _ h12=> ?_)
 refine go [rd 1 0 0 0 8 h12] ?_
 rcases Bool.eq_false_or_eq_true (decide (posP x y z st why tr nx)) with cb13|cb13
 ·
  refine cl0 call198 (by have h_:=poss_ht x y z st why tr nx L om om;rw[cb13] at h_;exact h_) h12 fun _ h15=> ?_
  refine go [rd 3 1 0 7 1 h15]<|cl0 call199 (tag_ht L om) h15 fun _ h17=>g0 ?_
  exact en (iV (tagE L)) [] ⟨_,_,rfl,⟨by unfold resE;rw[if_pos (of_decide_eq_true cb13)],rfl⟩,h17.a.t1⟩
 refine cl0 call198 (by have h_:=poss_ht x y z st why tr nx L om om;rw[cb13] at h_;exact h_) h12 fun _ h20=> ?_
 refine g0 ?_
 exact en (iV 2) [] ⟨_,_,rfl,⟨by unfold resE;rw[if_neg (of_decide_eq_false cb13)],rfl⟩,h20.a.t1⟩
theorem rnew_ok(x y z:Int)(L:List UInt8)(hz0:0≤z)(hz1:z≤4294967295)(hm:L.length≤1099511627776)(ho:1≤x∧x≤3∧0≤y∧y≤63∧1≤z)(ht:tagE L=0):HQ 138 [.agg #[iV x,iV y,uV z],.string (St L)] [] (.tuple #[.agg #[iV x,iV y,uV z,iV 1,iV 0,iV 0,iV 0,.string (St L)],iV 0]) []:=by
 refine hiS func138 ntmps138 fun g w0 R h0=>g0<|nP 72 [iV x,iV y,uV z] h0 (fun _ _ h12=> ?_)
 refine nP 82 [iV 0,iV 0,uV 0,iV 0,iV 0,iV 0,iV 0,.string (St [])] h12 (fun _ _ h15=> ?_)
 refine go [rd 1 0 1 0 3 h15]<|nP 82 [iV 0,iV 0,uV 0,iV 0,iV 0,iV 0,iV 0,.string (St [])] h15 (fun _ _ h18=> ?_)
 refine sA [iV x,iV y,uV z,iV 1,iV 0,iV 0,iV 0,.string (St L)] h18 fun _ h20=>go [rd 2 0 0 0 8 h20]<|cl0 call125 (by have h_:=rchk_ht x y z 1 0 0 0 L om om om;rw[show resE x y z 1 0 0 0 L=0 from (if_pos (by unfold posP;omega)).trans (show tagE L=0 from by omega)] at h_;exact h_) h20 fun _ h22=> ?_
 have h23:=h22.a.t4
 refine go [rd 5 0 0 0 8 h22]<|sA [iV x,iV y,uV z,iV 1,iV 0,iV 0,iV 0,.string (St L)] h23 fun _ h25=>g0 ?_
 exact enR _ [rd 0 0 0 0 8 h25] h25.c.t1
theorem rnew_tag(x y z:Int)(L:List UInt8)(hz0:0≤z)(hz1:z≤4294967295)(hm:L.length≤1099511627776)(ho:1≤x∧x≤3∧0≤y∧y≤63∧1≤z)(ht: ¬tagE L=0):HQ 138 [.agg #[iV x,iV y,uV z],.string (St L)] [] (.tuple #[.agg #[iV 0,iV 0,uV 0,iV 0,iV 0,iV 0,iV 0,.string (St [])],iV 16]) []:=by
 refine hiS func138 ntmps138 fun g w0 R h0=>g0<|nP 72 [iV x,iV y,uV z] h0 (fun _ _ h12=> ?_)
 refine nP 82 [iV 0,iV 0,uV 0,iV 0,iV 0,iV 0,iV 0,.string (St [])] h12 (fun _ _ h15=> ?_)
 refine go [rd 1 0 1 0 3 h15]<|nP 82 [iV 0,iV 0,uV 0,iV 0,iV 0,iV 0,iV 0,.string (St [])] h15 (fun _ _ h18=> ?_)
 refine sA [iV x,iV y,uV z,iV 1,iV 0,iV 0,iV 0,.string (St L)] h18 fun _ h20=>go [rd 2 0 0 0 8 h20]<|cl0 call125 (by have h_:=rchk_ht x y z 1 0 0 0 L om om om;rw[show resE x y z 1 0 0 0 L=16 from (if_pos (by unfold posP;omega)).trans (show tagE L=16 from by have h2_:=tagE_or L;omega)] at h_;exact h_) h20 fun _ h22=> ?_
 have h23:=h22.a.t4
 refine g0<|sA [iV 0,iV 0,uV 0,iV 0,iV 0,iV 0,iV 0,.string (St [])] h23 fun _ h25=>g0 ?_
 exact enR _ [rd 0 0 0 0 8 h25] h25.c.t1
theorem rnew_no(x y z:Int)(L:List UInt8)(hz0:0≤z)(hz1:z≤4294967295)(hm:L.length≤1099511627776)(ho: ¬(1≤x∧x≤3∧0≤y∧y≤63∧1≤z)):HQ 138 [.agg #[iV x,iV y,uV z],.string (St L)] [] (.tuple #[.agg #[iV 0,iV 0,uV 0,iV 0,iV 0,iV 0,iV 0,.string (St [])],iV 2]) []:=by
 refine hiS func138 ntmps138 fun g w0 R h0=>g0<|nP 72 [iV x,iV y,uV z] h0 (fun _ _ h12=> ?_)
 refine nP 82 [iV 0,iV 0,uV 0,iV 0,iV 0,iV 0,iV 0,.string (St [])] h12 (fun _ _ h15=> ?_)
 refine go [rd 1 0 1 0 3 h15]<|nP 82 [iV 0,iV 0,uV 0,iV 0,iV 0,iV 0,iV 0,.string (St [])] h15 (fun _ _ h18=> ?_)
 refine sA [iV x,iV y,uV z,iV 1,iV 0,iV 0,iV 0,.string (St L)] h18 fun _ h20=>go [rd 2 0 0 0 8 h20]<|cl0 call125 (by have h_:=rchk_ht x y z 1 0 0 0 L om om om;rw[show resE x y z 1 0 0 0 L=2 from if_neg (by unfold posP;omega)] at h_;exact h_) h20 fun _ h22=> ?_
 have h23:=h22.a.t4
 refine g0<|sA [iV 0,iV 0,uV 0,iV 0,iV 0,iV 0,iV 0,.string (St [])] h23 fun _ h25=>g0 ?_
 exact enR _ [rd 0 0 0 0 8 h25] h25.c.t1
def contB(L:List UInt8)(j:Nat):Option Nat:=if j<L.length∧(L.getD j 0).toNat/64=2 then some ((L.getD j 0).toNat%64) else none
def decF(b0:Nat)(c1 c2 c3:Option Nat):Nat×Nat:=
 if b0<128 then (b0,1)
 else if b0/32=6 then (match c1 with
  |some d1=>if 128≤b0%32*64+d1 then (b0%32*64+d1,2) else (0,0)
  |none=>(0,0))
 else if b0/16=14 then (match c1,c2 with
  |some d1,some d2=>if 2048≤b0%16*4096+d1*64+d2∧ ¬(55296≤b0%16*4096+d1*64+d2∧b0%16*4096+d1*64+d2≤57343) then (b0%16*4096+d1*64+d2,3) else (0,0)
  |_,_=>(0,0))
 else if b0/8=30 then (match c1,c2,c3 with
  |some d1,some d2,some d3=>if 65536≤b0%8*262144+d1*4096+d2*64+d3∧b0%8*262144+d1*4096+d2*64+d3≤1114111 then (b0%8*262144+d1*4096+d2*64+d3,4) else (0,0)
  |_,_,_=>(0,0))
 else (0,0)
def runeD(L:List UInt8)(i:Nat):Nat×Nat:=decF (L.getD i 0).toNat (contB L (i+1)) (contB L (i+2)) (contB L (i+3))
theorem get_st(L:List UInt8)(j:Nat):(St L).get! j=L.getD j 0:=by
 show L.toArray[j]! =L.getD j 0
 rw[getElem!_def,List.getElem?_toArray,List.getD_eq_getElem?_getD]
 cases L[j]? <;>rfl
theorem contB_dec(L:List UInt8)(i k:Nat):(decide (i+k<(St L).size)&&((St L).get! (i+k)).toNat/64==2)=(contB L (i+k)).isSome:=by
 rw[get_st,st_size]
 unfold contB
 by_cases h1:i+k<L.length
 · by_cases h2:(L.getD (i+k) 0).toNat/64=2
   · rw[if_pos ⟨h1,h2⟩,decide_eq_true h1,h2];rfl
   · rw[if_neg (fun h=>h2 h.2),decide_eq_true h1,Bool.true_and]
     simpa using h2
 · rw[if_neg (fun h=>h1 h.1),decide_eq_false h1];rfl
theorem contB_some{L:List UInt8}{j d:Nat}(h:contB L j=some d):d=(L.getD j 0).toNat%64∧d<64:=by
 unfold contB at h
 split at h
 · have:=Option.some.inj h
   omega
 · cases h
set_option maxRecDepth 100000 in
theorem runeD_dec(L:List UInt8)(i:Nat):runeD L i=if dec L i=(65533,1) then (0,0) else dec L i:=by
 have h1:=contB_dec L i 1
 have h2:=contB_dec L i 2
 have h3:=contB_dec L i 3
 unfold dec Utf8.decode runeD decF
 simp only[Nat.add_zero,h1,h2,h3]
 simp only[get_st]
 generalize hb:(L.getD i 0).toNat=b0
 have q1: ∀d,contB L (i+1)=some d→d=(L.getD (i+1) 0).toNat%64∧d<64:=fun d h=>contB_some h
 have q2: ∀d,contB L (i+2)=some d→d=(L.getD (i+2) 0).toNat%64∧d<64:=fun d h=>contB_some h
 have q3: ∀d,contB L (i+3)=some d→d=(L.getD (i+3) 0).toNat%64∧d<64:=fun d h=>contB_some h
 generalize (L.getD (i+1) 0).toNat%64=e1 at*
 generalize (L.getD (i+2) 0).toNat%64=e2 at*
 generalize (L.getD (i+3) 0).toNat%64=e3 at*
 have v1: ∀c:Nat,Utf8.valid (c:Int)=decide (c<55296∨(57344≤c∧c≤1114111)):=fun c=>by
  unfold Utf8.valid
  rw[Bool.eq_iff_iff]
  simp only[Bool.or_eq_true,Bool.and_eq_true,decide_eq_true_eq]
  omega
 by_cases a0:b0<128
 · rw[if_pos a0,if_pos a0,if_neg (by simp only[Prod.mk.injEq];omega)]
 · rw[if_neg a0,if_neg a0]
   by_cases a1:b0/32=6
   · rw[if_pos a1]
     cases hc1:contB L (i+1) with
     |none=>simp[a1,show ¬b0/16=14 by omega,show ¬b0/8=30 by omega,Utf8.runeError]
     |some d1=>
      obtain⟨rfl,hd⟩:=q1 d1 hc1
      by_cases hc:128≤b0%32*64+d1
      · simp only[a1,hc,Option.isSome_some,Bool.and_true,beq_self_eq_true,if_true,ge_iff_le]
        rw[if_neg (by simp only[Prod.mk.injEq];omega)]
      · simp[a1,hc,Utf8.runeError]
   · rw[if_neg a1]
     by_cases a2:b0/16=14
     · rw[if_pos a2]
       cases hc1:contB L (i+1) with
       |none=>simp[a1,a2,show ¬b0/8=30 by omega,Utf8.runeError]
       |some d1=>
        obtain⟨rfl,hd1⟩:=q1 d1 hc1
        cases hc2:contB L (i+2) with
        |none=>simp[a1,a2,show ¬b0/8=30 by omega,Utf8.runeError]
        |some d2=>
         obtain⟨rfl,hd2⟩:=q2 d2 hc2
         show (if 2048≤b0%16*4096+d1*64+d2∧ ¬(55296≤b0%16*4096+d1*64+d2∧b0%16*4096+d1*64+d2≤57343) then (b0%16*4096+d1*64+d2,3) else (0,0))=_
         obtain⟨c,hcd⟩: ∃c,b0%16*4096+d1*64+d2=c:=⟨_,rfl⟩
         simp only[hcd]
         by_cases hc:2048≤c∧ ¬(55296≤c∧c≤57343)
         · rw[if_pos hc]
           have hv:Utf8.valid (c:Int)=true:=by rw[v1];exact decide_eq_true om
           have e1':(b0/32==6)=false:=by simpa using a1
           have e2':(b0/16==14)=true:=by simpa using a2
           simp only[e1',e2',hv,ge_iff_le,decide_eq_true hc.1,Option.isSome_some,Bool.and_self,Bool.false_and,Bool.false_eq_true,if_false,if_true]
           rw[if_neg (fun h=>absurd (show (3:Nat)=1 from congrArg Prod.snd h) dc)]
         · rw[if_neg hc]
           by_cases hl:2048≤c
           · have hv:Utf8.valid (c:Int)=false:=by rw[v1];exact decide_eq_false om
             simp[a1,a2,hl,hv,Utf8.runeError]
           · simp[a1,a2,hl,Utf8.runeError]
     · rw[if_neg a2]
       by_cases a3:b0/8=30
       · rw[if_pos a3]
         cases hc1:contB L (i+1) with
         |none=>simp[a1,a2,a3,Utf8.runeError]
         |some d1=>
          obtain⟨rfl,hd1⟩:=q1 d1 hc1
          cases hc2:contB L (i+2) with
          |none=>simp[a1,a2,a3,Utf8.runeError]
          |some d2=>
           obtain⟨rfl,hd2⟩:=q2 d2 hc2
           cases hc3:contB L (i+3) with
           |none=>simp[a1,a2,a3,Utf8.runeError]
           |some d3=>
            obtain⟨rfl,hd3⟩:=q3 d3 hc3
            show (if 65536≤b0%8*262144+d1*4096+d2*64+d3∧b0%8*262144+d1*4096+d2*64+d3≤1114111 then (b0%8*262144+d1*4096+d2*64+d3,4) else (0,0))=_
            obtain⟨c,hcd⟩: ∃c,b0%8*262144+d1*4096+d2*64+d3=c:=⟨_,rfl⟩
            simp only[hcd]
            by_cases hc:65536≤c∧c≤1114111
            · rw[if_pos hc]
              have hv:Utf8.valid (c:Int)=true:=by rw[v1];exact decide_eq_true om
              have e1':(b0/32==6)=false:=by simpa using a1
              have e2':(b0/16==14)=false:=by simpa using a2
              have e3':(b0/8==30)=true:=by simpa using a3
              simp only[e1',e2',e3',hv,ge_iff_le,decide_eq_true hc.1,Option.isSome_some,Bool.and_self,Bool.false_and,Bool.false_eq_true,if_false,if_true]
              rw[if_neg (fun h=>absurd (show (4:Nat)=1 from congrArg Prod.snd h) dc)]
            · rw[if_neg hc]
              by_cases hl:65536≤c
              · have hv:Utf8.valid (c:Int)=false:=by rw[v1];exact decide_eq_false om
                simp[a1,a2,a3,hl,hv,Utf8.runeError]
              · simp[a1,a2,a3,hl,Utf8.runeError]
       · rw[if_neg a3]
         simp[a1,a2,a3,Utf8.runeError]
def rnD(L:List UInt8):Nat→Nat→Option (List Nat)
 |0,_=>some []
 |f+1,p=>if L.length≤p then some [] else if (runeD L p).2=0 then none else (rnD L f (p+(runeD L p).2)).map fun l=>(runeD L p).1::l
theorem rn_end{L:List UInt8}{f p:Nat}(h:L.length≤p):rnD L f p=some []:=by
 cases f with
 |zero=>rfl
 |succ f=>exact if_pos h
theorem rn_bad{L:List UInt8}{f p:Nat}(h:p<L.length)(hf:L.length≤p+f)(hb:(runeD L p).2=0):rnD L f p=none:=by
 cases f with
 |zero=>omega
 |succ f=>
  show (if L.length≤p then _ else _)=_
  rw[if_neg om,if_pos hb]
theorem rn_go{L:List UInt8}{f p:Nat}(h:p<L.length)(hf:L.length≤p+f)(hb:(runeD L p).2≠0):rnD L f p=(rnD L (f-1) (p+(runeD L p).2)).map fun l=>(runeD L p).1::l:=by
 cases f with
 |zero=>omega
 |succ f=>
  show (if L.length≤p then _ else _)=_
  rw[if_neg om,if_neg hb]
  rfl
def badC(c:Nat):Bool:=decide (c<32∨c=127)
def tagD(L:List UInt8):Int:=match rnD L L.length 0 with
 |none=>16
 |some l=>if l.length<1∨24<l.length then 16 else if l.any badC then 16 else 0
theorem dec_wd(L:List UInt8)(p:Nat):(runeD L p).2≤4:=by
 unfold runeD decF
 repeat' split
 all_goals (first|omega|(simp only;omega))
theorem get_take{L:List UInt8}{p:Nat}{a b c:UInt8}(h:(L.drop p).take 3= [a,b,c]):L[p]? =some a∧L[p+1]? =some b∧L[p+2]? =some c:=by
 have h0:((L.drop p).take 3)[0]? =some a:=by rw[h];rfl
 have h1:((L.drop p).take 3)[1]? =some b:=by rw[h];rfl
 have h2:((L.drop p).take 3)[2]? =some c:=by rw[h];rfl
 rw[List.getElem?_take_of_lt om,List.getElem?_drop] at h0 h1 h2
 exact⟨h0,h1,h2⟩
set_option maxRecDepth 100000 in
theorem lit_rune(c3:Option Nat):decF (UInt8.toNat 239) (some 63) (some 61) c3=(65533,3):=by
 show (if (239:Nat)<128 then (239,1) else if 239/32=6 then _ else if 239/16=14 then (if 2048≤239%16*4096+63*64+61∧ ¬(55296≤239%16*4096+63*64+61∧239%16*4096+63*64+61≤57343) then (239%16*4096+63*64+61,3) else (0,0)) else _)=_
 rw[if_neg dc,if_neg dc,if_pos dc,if_pos dc]
theorem bad_iff{L:List UInt8}{p:Nat}(hp:p<L.length):badR L p↔(runeD L p).2=0∨badC (runeD L p).1=true:=by
 have hd:=runeD_dec L p
 have hw:=dec_pos hp
 have hlit:(dec L p).1=65533→(dec L p≠(65533,1))→(L.drop p).take 3= [239,191,189]:=fun h1 h2=>by
  rw[if_neg h2] at hd
  rw[←hd] at h1 hw
  have hlt: ∀j,(L.getD j 0).toNat<256:=fun j=>(L.getD j 0).toNat_lt
  have hl:=hlt p
  unfold runeD decF at h1 hw
  have q1: ∀d,contB L (p+1)=some d→p+1<L.length∧(L.getD (p+1) 0).toNat/64=2∧d=(L.getD (p+1) 0).toNat%64:=fun d h=>by
   unfold contB at h
   split at h
   · rename_i hh;exact⟨hh.1,hh.2,(Option.some.inj h).symm⟩
   · cases h
  have q2: ∀d,contB L (p+2)=some d→p+2<L.length∧(L.getD (p+2) 0).toNat/64=2∧d=(L.getD (p+2) 0).toNat%64:=fun d h=>by
   unfold contB at h
   split at h
   · rename_i hh;exact⟨hh.1,hh.2,(Option.some.inj h).symm⟩
   · cases h
  have q3: ∀d,contB L (p+3)=some d→d<64:=fun d h=>(contB_some h).2
  split at h1
  · simp only at h1;omega
  · split at h1
    · split at h1
      · rename_i d1 hc1
        have:=q1 d1 hc1
        split at h1
        · simp only at h1;omega
        · simp only at h1;omega
      · simp only at h1;omega
    · split at h1
      · split at h1
        · rename_i d1 d2 hc1 hc2
          obtain⟨a1,a2,a3⟩:=q1 d1 hc1
          obtain⟨b1,b2,b3⟩:=q2 d2 hc2
          split at h1
          · simp only at h1
            have e0:(L.getD p 0).toNat=239:=by omega
            have e1:(L.getD (p+1) 0).toNat=191:=by omega
            have e2:(L.getD (p+2) 0).toNat=189:=by omega
            have f0:L.getD p 0=239:=UInt8.toNat_inj.1 e0
            have f1:L.getD (p+1) 0=191:=UInt8.toNat_inj.1 e1
            have f2:L.getD (p+2) 0=189:=UInt8.toNat_inj.1 e2
            have g0:L[p]? =some 239:=by rw[List.getElem?_eq_getElem hp,←f0,List.getD_eq_getElem?_getD,List.getElem?_eq_getElem hp];rfl
            have g1:L[p+1]? =some 191:=by rw[List.getElem?_eq_getElem a1,←f1,List.getD_eq_getElem?_getD,List.getElem?_eq_getElem a1];rfl
            have g2:L[p+2]? =some 189:=by rw[List.getElem?_eq_getElem b1,←f2,List.getD_eq_getElem?_getD,List.getElem?_eq_getElem b1];rfl
            apply List.ext_getElem?
            intro j
            match j with
            |0=>rw[List.getElem?_take_of_lt om,List.getElem?_drop];exact g0
            |1=>rw[List.getElem?_take_of_lt om,List.getElem?_drop];exact g1
            |2=>rw[List.getElem?_take_of_lt om,List.getElem?_drop];exact g2
            |j+3=>rw[List.getElem?_eq_none (by rw[List.length_take];omega)];rfl
          · simp only at h1;omega
        · simp only at h1;omega
      · split at h1
        · split at h1
          · rename_i d1 d2 d3 hc1 hc2 hc3
            have:=q1 d1 hc1
            have:=q2 d2 hc2
            have:=q3 d3 hc3
            split at h1
            · simp only at h1;omega
            · simp only at h1;omega
          · simp only at h1;omega
        · simp only at h1;omega
 have herr:dec L p=(65533,1)→ ¬(L.drop p).take 3= [239,191,189]:=fun h1 h2=>by
  obtain⟨g0,g1,g2⟩:=get_take h2
  rw[if_pos h1] at hd
  have f0:L.getD p 0=239:=by rw[List.getD_eq_getElem?_getD,g0];rfl
  have f1:L.getD (p+1) 0=191:=by rw[List.getD_eq_getElem?_getD,g1];rfl
  have f2:L.getD (p+2) 0=189:=by rw[List.getD_eq_getElem?_getD,g2];rfl
  have c1:contB L (p+1)=some 63:=by
   unfold contB
   rw[f1,if_pos ⟨(List.getElem?_eq_some_iff.1 g1).1,by decide⟩]
   rfl
  have c2:contB L (p+2)=some 61:=by
   unfold contB
   rw[f2,if_pos ⟨(List.getElem?_eq_some_iff.1 g2).1,by decide⟩]
   rfl
  have:runeD L p=(65533,3):=by
   unfold runeD
   rw[f0,c1,c2]
   exact lit_rune _
  rw[this] at hd
  exact absurd (congrArg Prod.snd hd) dc
 unfold badR badC
 rw[decide_eq_true_eq]
 by_cases h1:dec L p=(65533,1)
 · rw[if_pos h1] at hd
   rw[hd]
   exact⟨fun _=> .inl rfl,fun _=> .inl ⟨by rw[h1],herr h1⟩⟩
 · rw[if_neg h1] at hd
   rw[hd]
   constructor
   · rintro(⟨h2,h3⟩|h2|h2)
     · exact absurd (hlit h2 h1) h3
     · exact .inr (.inl h2)
     · exact .inr (.inr h2)
   · rintro(h2|h2|h2)
     · omega
     · exact .inr (.inl h2)
     · exact .inr (.inr h2)
theorem scan_rn{L:List UInt8}: ∀(f p n:Nat),tagScan L f p n=match rnD L f p with
  |none=>none
  |some l=>if l.any badC then none else some (n+l.length)
 |0,p,n=>rfl
 |f+1,p,n=>by
  by_cases h:L.length≤p
  · rw[scan_end h,rn_end h];rfl
  · have hp:p<L.length:=by omega
    have hd:=runeD_dec L p
    have hb:=bad_iff hp
    have hw:=dec_pos hp
    show (if L.length≤p then some n else if badR L p then none else tagScan L f (p+(dec L p).2) (n+1))=match (if L.length≤p then some [] else if (runeD L p).2=0 then none else (rnD L f (p+(runeD L p).2)).map fun l=>(runeD L p).1::l) with
     |none=>none
     |some l=>if l.any badC then none else some (n+l.length)
    rw[if_neg h,if_neg h]
    by_cases h0:(runeD L p).2=0
    · rw[if_pos h0,if_pos (hb.2 (.inl h0))]
    · rw[if_neg h0]
      have he:dec L p≠(65533,1):=fun he=>by rw[if_pos he] at hd;rw[hd] at h0;exact h0 rfl
      rw[if_neg he] at hd
      by_cases hc:badC (runeD L p).1=true
      · rw[if_pos (hb.2 (.inr hc))]
        cases rnD L f (p+(runeD L p).2) with
        |none=>rfl
        |some l=>simp[hc]
      · rw[if_neg (fun hh=>(hb.1 hh).elim h0 hc),←hd,scan_rn f]
        cases rnD L f (p+(runeD L p).2) with
        |none=>rfl
        |some l=>
         simp only[Option.map_some,List.any_cons,hc,Bool.false_or,List.length_cons]
         split
         · rfl
         · congr 1;omega
theorem rn_bytes{L:List UInt8}: ∀(f p:Nat) (l:List Nat),L.length≤p+f→rnD L f p=some l→L.length≤p+4*l.length
 |0,p,l,h,_=>by omega
 |f+1,p,l,h,hr=>by
  by_cases h1:L.length≤p
  · omega
  · by_cases h0:(runeD L p).2=0
    · rw[rn_bad om h h0] at hr;cases hr
    · rw[rn_go om h h0] at hr
      cases hq:rnD L (f+1-1) (p+(runeD L p).2) with
      |none=>rw[hq] at hr;cases hr
      |some l2=>
       rw[hq] at hr
       have:=Option.some.inj hr
       have ih:=rn_bytes f (p+(runeD L p).2) l2 om hq
       have hw:=dec_wd L p
       rw[←this]
       simp only[List.length_cons]
       omega
theorem tagD_eq(L:List UInt8):tagD L=tagE L:=by
 unfold tagD tagE scanN scanB
 rw[scan_rn]
 cases hr:rnD L L.length 0 with
 |none=>simp
 |some l=>
  have hb:=rn_bytes L.length 0 l om hr
  simp only[Nat.zero_add]
  by_cases ha:l.any badC=true
  · rw[if_pos ha]
    simp only[ha,if_true]
    by_cases h1:l.length<1∨24<l.length
    · simp[h1]
    · simp[h1]
  · simp only[ha,if_false,Option.getD_some,Option.isSome_some,true_and,Bool.false_eq_true]
    by_cases h1:l.length<1∨24<l.length
    · rw[if_pos h1]
      split
      · rfl
      · rw[if_neg om]
    · rw[if_neg h1,if_neg om,if_pos om]
theorem getD_at{L:List UInt8}{j:Nat}{x:UInt8}(h:L[j]? =some x):(L.getD j 0).toNat=x.toNat:=by rw[List.getD_eq_getElem?_getD,h];rfl
theorem cB_some{L:List UInt8}{j:Nat}{x:UInt8}(h:L[j]? =some x)(hx:128≤x.toNat∧x.toNat<192):contB L j=some (x.toNat%64):=by
 unfold contB
 rw[getD_at h,if_pos ⟨(List.getElem?_eq_some_iff.1 h).1,by omega⟩]
theorem cB_none{L:List UInt8}{j:Nat}{x:UInt8}(h:L[j]? =some x)(hx:x.toNat<128∨192≤x.toNat):contB L j=none:=by
 unfold contB
 have:=x.toNat_lt
 rw[getD_at h,if_neg (fun q=>by omega)]
theorem cB_out{L:List UInt8}{j:Nat}(h:L.length≤j):contB L j=none:=by
 unfold contB
 rw[if_neg (fun q=>by omega)]
theorem rd_of{L:List UInt8}{i:Nat}{x:UInt8}{c1 c2 c3:Option Nat}(h:L[i]? =some x)(h1:contB L (i+1)=c1)(h2:contB L (i+2)=c2)(h3:contB L (i+3)=c3):runeD L i=decF x.toNat c1 c2 c3:=by
 unfold runeD
 rw[getD_at h,h1,h2,h3]
theorem rune_ht(L:List UInt8)(i:Nat)(hi:i<L.length)(hm:L.length≤1099511627776):HQ 287 [.string (St L),iV (i:Int)] [] (.tuple #[iV (((runeD L i).1:Nat):Int),iV (((runeD L i).2:Nat):Int)]) []:=by
 refine hiS func287 ntmps287 fun g w0 R h0=> ?_
 obtain⟨x10,hx11⟩:=gX L i om
 have hb12:=x10.toNat_lt
 refine go [.s 1 2]<|lwP (yV (x10.toNat:Int)) (law_idxStr (x:=Ot 11) (i:=Ot 12) (k:= .i64) (s:=L) (z:=(i:Int)) (b:=x10) kr underlying9 kr kr i om hx11 _)<|go [.v 1 3 (oIr (x10.toNat:Int)),.s 2 1] ?_
 by_cases c13:(x10.toNat:Int)<128
 ·
  refine go [.v 2 1 (oT _ c13)] ?_
  have he_:=rd_of hx11 rfl rfl rfl
  unfold decF at he_
  rw[if_pos om] at he_
  have hr1_:((runeD L i).1:Int)=(x10.toNat:Int):=by rw[he_]<;>first|rfl |(dsimp only;omega)
  have hr2_:((runeD L i).2:Int)=1:=by rw[he_]<;>rfl
  exact en (.tuple #[iV (x10.toNat:Int),iV 1]) [] ⟨_,_,rfl,⟨by rw[hr1_,hr2_],rfl⟩,h0⟩
 refine go [.v 2 1 (oF _ c13),.s 6 1] ?_
 by_cases c14:(x10.toNat:Int)≥192
 ·
  refine go [.v 6 1 (oT _ c14),.s 6 4] ?_
  by_cases c15:(x10.toNat:Int)<224
  ·
   refine go [.v 6 4 (oT _ c15),.v 9 1 (oIr ((x10.toNat:Int)-192)),.v 18 5 (oIr ((i:Int)+2)),.v 18 7 (⟨iV ((St L).size:Int),iV (L.length:Int),(ov_int (st_len _))⟩),.s 18 8] ?_
   by_cases c16:(i:Int)+2>(L.length:Int)
   ·
    refine go [.v 18 8 (oT _ c16)] ?_
    have he_:=rd_of hx11 (cB_out om) (cB_out om) (cB_out om)
    unfold decF at he_
    rw[if_neg om,if_pos om] at he_
    have hr1_:((runeD L i).1:Int)=0:=by rw[he_]<;>first|rfl |(dsimp only;omega)
    have hr2_:((runeD L i).2:Int)=0:=by rw[he_]<;>rfl
    exact en (.tuple #[iV 0,iV 0]) [] ⟨_,_,rfl,⟨by rw[hr1_,hr2_],rfl⟩,h0⟩
   refine go [.v 18 8 (oF _ c16)]<|unS 3 ?_
   obtain⟨x17,hx18⟩:=gX L (i+1) om
   have hb19:=x17.toNat_lt
   refine go [.v 23 3 (oIr ((i:Int)+1)),.s 23 4]<|lwP (yV (x17.toNat:Int)) (law_idxStr (x:=Ot 57) (i:=Ot 60) (k:= .i64) (s:=L) (z:=((i:Int)+1)) (b:=x17) kr underlying9 kr kr (i+1) om hx18 _)<|go [.v 23 5 (oIr (x17.toNat:Int)),.s 24 1] ?_
   by_cases c20:(x17.toNat:Int)<128
   ·
    refine go [.v 24 1 (oT _ c20)]<|up<|g0 ?_
    have he_:=rd_of hx11 (cB_none (j:=i+1) (by rw[show i+1=(i+1) from by omega];exact hx18) om) rfl rfl
    unfold decF at he_
    rw[if_neg om,if_pos om] at he_
    have hr1_:((runeD L i).1:Int)=0:=by rw[he_]<;>first|rfl |(dsimp only;omega)
    have hr2_:((runeD L i).2:Int)=0:=by rw[he_]<;>rfl
    exact en (.tuple #[iV 0,iV 0]) [] ⟨_,_,rfl,⟨by rw[hr1_,hr2_],rfl⟩,h0⟩
   refine go [.v 24 1 (oF _ c20),.s 24 4] ?_
   by_cases c21:(x17.toNat:Int)≥192
   ·
    refine go [.v 24 4 (oT _ c21)]<|up<|g0 ?_
    have he_:=rd_of hx11 (cB_none (j:=i+1) (by rw[show i+1=(i+1) from by omega];exact hx18) om) rfl rfl
    unfold decF at he_
    rw[if_neg om,if_pos om] at he_
    have hr1_:((runeD L i).1:Int)=0:=by rw[he_]<;>first|rfl |(dsimp only;omega)
    have hr2_:((runeD L i).2:Int)=0:=by rw[he_]<;>rfl
    exact en (.tuple #[iV 0,iV 0]) [] ⟨_,_,rfl,⟨by rw[hr1_,hr2_],rfl⟩,h0⟩
   refine go [.v 24 4 (oF _ c21),.v 26 1 (oI (((x10.toNat:Int)-192)*64) (64*(x10.toNat:Int)-12288)),.v 26 3 (oI ((64*(x10.toNat:Int)-12288)+(x17.toNat:Int)) (64*(x10.toNat:Int)+(x17.toNat:Int)-12288)),.v 26 4 (oI ((64*(x10.toNat:Int)+(x17.toNat:Int)-12288)-128) (64*(x10.toNat:Int)+(x17.toNat:Int)-12416))]<|unN<|g0<|up<|go [.s 27 2] ?_
   by_cases c22:64*(x10.toNat:Int)+(x17.toNat:Int)-12416<128
   ·
    refine go [.v 27 2 (oT _ c22)] ?_
    have he_:=rd_of hx11 (cB_some (j:=i+1) (by rw[show i+1=(i+1) from by omega];exact hx18) om) rfl rfl
    unfold decF at he_
    rw[if_neg om,if_pos om] at he_
    dsimp only at he_
    rw[if_neg om] at he_
    have hr1_:((runeD L i).1:Int)=0:=by rw[he_]<;>first|rfl |(dsimp only;omega)
    have hr2_:((runeD L i).2:Int)=0:=by rw[he_]<;>rfl
    exact en (.tuple #[iV 0,iV 0]) [] ⟨_,_,rfl,⟨by rw[hr1_,hr2_],rfl⟩,h0⟩
   refine go [.v 27 2 (oF _ c22),.v 27 5 (oF (64*(x10.toNat:Int)+(x17.toNat:Int)-12416>1114111)),.v 27 9 (oF (64*(x10.toNat:Int)+(x17.toNat:Int)-12416≥55296))] ?_
   have he_:=rd_of hx11 (cB_some (j:=i+1) (by rw[show i+1=(i+1) from by omega];exact hx18) om) rfl rfl
   unfold decF at he_
   rw[if_neg om,if_pos om] at he_
   dsimp only at he_
   rw[if_pos om] at he_
   have hr1_:((runeD L i).1:Int)=64*(x10.toNat:Int)+(x17.toNat:Int)-12416:=by rw[he_]<;>first|rfl |(dsimp only;omega)
   have hr2_:((runeD L i).2:Int)=2:=by rw[he_]<;>rfl
   exact en (.tuple #[iV (64*(x10.toNat:Int)+(x17.toNat:Int)-12416),iV 2]) [] ⟨_,_,rfl,⟨by rw[hr1_,hr2_],rfl⟩,h0⟩
  refine go [.v 6 4 (oF _ c15),.v 10 1 (oT ((x10.toNat:Int)≥224)),.s 10 4] ?_
  by_cases c23:(x10.toNat:Int)<240
  ·
   refine go [.v 10 4 (oT _ c23),.v 13 1 (oIr ((x10.toNat:Int)-224)),.v 18 5 (oIr ((i:Int)+3)),.v 18 7 (⟨iV ((St L).size:Int),iV (L.length:Int),(ov_int (st_len _))⟩),.s 18 8] ?_
   by_cases c24:(i:Int)+3>(L.length:Int)
   ·
    refine go [.v 18 8 (oT _ c24)] ?_
    have he_:=rd_of hx11 rfl (cB_out om) (cB_out om)
    unfold decF at he_
    rw[if_neg om,if_neg om,if_pos om] at he_
    have he2_:runeD L i=(0,0):=by rw[he_];cases contB L (i+1)<;>rfl
    replace he_:=he2_
    have hr1_:((runeD L i).1:Int)=0:=by rw[he_]<;>first|rfl |(dsimp only;omega)
    have hr2_:((runeD L i).2:Int)=0:=by rw[he_]<;>rfl
    exact en (.tuple #[iV 0,iV 0]) [] ⟨_,_,rfl,⟨by rw[hr1_,hr2_],rfl⟩,h0⟩
   refine go [.v 18 8 (oF _ c24)]<|unS 3 ?_
   obtain⟨x25,hx26⟩:=gX L (i+1) om
   have hb27:=x25.toNat_lt
   refine go [.v 23 3 (oIr ((i:Int)+1)),.s 23 4]<|lwP (yV (x25.toNat:Int)) (law_idxStr (x:=Ot 57) (i:=Ot 60) (k:= .i64) (s:=L) (z:=((i:Int)+1)) (b:=x25) kr underlying9 kr kr (i+1) om hx26 _)<|go [.v 23 5 (oIr (x25.toNat:Int)),.s 24 1] ?_
   by_cases c28:(x25.toNat:Int)<128
   ·
    refine go [.v 24 1 (oT _ c28)]<|up<|g0 ?_
    have he_:=rd_of hx11 (cB_none (j:=i+1) (by rw[show i+1=(i+1) from by omega];exact hx26) om) rfl rfl
    unfold decF at he_
    rw[if_neg om,if_neg om,if_pos om] at he_
    have hr1_:((runeD L i).1:Int)=0:=by rw[he_]<;>first|rfl |(dsimp only;omega)
    have hr2_:((runeD L i).2:Int)=0:=by rw[he_]<;>rfl
    exact en (.tuple #[iV 0,iV 0]) [] ⟨_,_,rfl,⟨by rw[hr1_,hr2_],rfl⟩,h0⟩
   refine go [.v 24 1 (oF _ c28),.s 24 4] ?_
   by_cases c29:(x25.toNat:Int)≥192
   ·
    refine go [.v 24 4 (oT _ c29)]<|up<|g0 ?_
    have he_:=rd_of hx11 (cB_none (j:=i+1) (by rw[show i+1=(i+1) from by omega];exact hx26) om) rfl rfl
    unfold decF at he_
    rw[if_neg om,if_neg om,if_pos om] at he_
    have hr1_:((runeD L i).1:Int)=0:=by rw[he_]<;>first|rfl |(dsimp only;omega)
    have hr2_:((runeD L i).2:Int)=0:=by rw[he_]<;>rfl
    exact en (.tuple #[iV 0,iV 0]) [] ⟨_,_,rfl,⟨by rw[hr1_,hr2_],rfl⟩,h0⟩
   refine go [.v 24 4 (oF _ c29),.v 26 1 (oI (((x10.toNat:Int)-224)*64) (64*(x10.toNat:Int)-14336)),.v 26 3 (oI ((64*(x10.toNat:Int)-14336)+(x25.toNat:Int)) (64*(x10.toNat:Int)+(x25.toNat:Int)-14336)),.v 26 4 (oI ((64*(x10.toNat:Int)+(x25.toNat:Int)-14336)-128) (64*(x10.toNat:Int)+(x25.toNat:Int)-14464))]<|unN ?_
   obtain⟨x30,hx31⟩:=gX L (i+2) om
   have hb32:=x30.toNat_lt
   refine go [.v 23 3 (oIr ((i:Int)+2)),.s 23 4]<|lwP (yV (x30.toNat:Int)) (law_idxStr (x:=Ot 57) (i:=Ot 60) (k:= .i64) (s:=L) (z:=((i:Int)+2)) (b:=x30) kr underlying9 kr kr (i+2) om hx31 _)<|go [.v 23 5 (oIr (x30.toNat:Int)),.s 24 1] ?_
   by_cases c33:(x30.toNat:Int)<128
   ·
    refine go [.v 24 1 (oT _ c33)]<|up<|g0 ?_
    have he_:=rd_of hx11 (cB_some (j:=i+1) (by rw[show i+1=(i+1) from by omega];exact hx26) om) (cB_none (j:=i+2) (by rw[show i+2=(i+2) from by omega];exact hx31) om) rfl
    unfold decF at he_
    rw[if_neg om,if_neg om,if_pos om] at he_
    have hr1_:((runeD L i).1:Int)=0:=by rw[he_]<;>first|rfl |(dsimp only;omega)
    have hr2_:((runeD L i).2:Int)=0:=by rw[he_]<;>rfl
    exact en (.tuple #[iV 0,iV 0]) [] ⟨_,_,rfl,⟨by rw[hr1_,hr2_],rfl⟩,h0⟩
   refine go [.v 24 1 (oF _ c33),.s 24 4] ?_
   by_cases c34:(x30.toNat:Int)≥192
   ·
    refine go [.v 24 4 (oT _ c34)]<|up<|g0 ?_
    have he_:=rd_of hx11 (cB_some (j:=i+1) (by rw[show i+1=(i+1) from by omega];exact hx26) om) (cB_none (j:=i+2) (by rw[show i+2=(i+2) from by omega];exact hx31) om) rfl
    unfold decF at he_
    rw[if_neg om,if_neg om,if_pos om] at he_
    have hr1_:((runeD L i).1:Int)=0:=by rw[he_]<;>first|rfl |(dsimp only;omega)
    have hr2_:((runeD L i).2:Int)=0:=by rw[he_]<;>rfl
    exact en (.tuple #[iV 0,iV 0]) [] ⟨_,_,rfl,⟨by rw[hr1_,hr2_],rfl⟩,h0⟩
   refine go [.v 24 4 (oF _ c34),.v 26 1 (oI ((64*(x10.toNat:Int)+(x25.toNat:Int)-14464)*64) (4096*(x10.toNat:Int)+64*(x25.toNat:Int)-925696)),.v 26 3 (oI ((4096*(x10.toNat:Int)+64*(x25.toNat:Int)-925696)+(x30.toNat:Int)) (4096*(x10.toNat:Int)+64*(x25.toNat:Int)+(x30.toNat:Int)-925696)),.v 26 4 (oI ((4096*(x10.toNat:Int)+64*(x25.toNat:Int)+(x30.toNat:Int)-925696)-128) (4096*(x10.toNat:Int)+64*(x25.toNat:Int)+(x30.toNat:Int)-925824))]<|unN<|g0<|up<|go [.s 27 2] ?_
   by_cases c35:4096*(x10.toNat:Int)+64*(x25.toNat:Int)+(x30.toNat:Int)-925824<2048
   ·
    refine go [.v 27 2 (oT _ c35)] ?_
    have he_:=rd_of hx11 (cB_some (j:=i+1) (by rw[show i+1=(i+1) from by omega];exact hx26) om) (cB_some (j:=i+2) (by rw[show i+2=(i+2) from by omega];exact hx31) om) rfl
    unfold decF at he_
    rw[if_neg om,if_neg om,if_pos om] at he_
    dsimp only at he_
    rw[if_neg om] at he_
    have hr1_:((runeD L i).1:Int)=0:=by rw[he_]<;>first|rfl |(dsimp only;omega)
    have hr2_:((runeD L i).2:Int)=0:=by rw[he_]<;>rfl
    exact en (.tuple #[iV 0,iV 0]) [] ⟨_,_,rfl,⟨by rw[hr1_,hr2_],rfl⟩,h0⟩
   refine go [.v 27 2 (oF _ c35),.v 27 5 (oF (4096*(x10.toNat:Int)+64*(x25.toNat:Int)+(x30.toNat:Int)-925824>1114111)),.s 27 9] ?_
   by_cases c36:4096*(x10.toNat:Int)+64*(x25.toNat:Int)+(x30.toNat:Int)-925824≥55296
   ·
    refine go [.v 27 9 (oT _ c36),.s 27 12] ?_
    by_cases c37:4096*(x10.toNat:Int)+64*(x25.toNat:Int)+(x30.toNat:Int)-925824≤57343
    ·
     refine go [.v 27 12 (oT _ c37)] ?_
     have he_:=rd_of hx11 (cB_some (j:=i+1) (by rw[show i+1=(i+1) from by omega];exact hx26) om) (cB_some (j:=i+2) (by rw[show i+2=(i+2) from by omega];exact hx31) om) rfl
     unfold decF at he_
     rw[if_neg om,if_neg om,if_pos om] at he_
     dsimp only at he_
     rw[if_neg om] at he_
     have hr1_:((runeD L i).1:Int)=0:=by rw[he_]<;>first|rfl |(dsimp only;omega)
     have hr2_:((runeD L i).2:Int)=0:=by rw[he_]<;>rfl
     exact en (.tuple #[iV 0,iV 0]) [] ⟨_,_,rfl,⟨by rw[hr1_,hr2_],rfl⟩,h0⟩
    refine go [.v 27 12 (oF _ c37)] ?_
    have he_:=rd_of hx11 (cB_some (j:=i+1) (by rw[show i+1=(i+1) from by omega];exact hx26) om) (cB_some (j:=i+2) (by rw[show i+2=(i+2) from by omega];exact hx31) om) rfl
    unfold decF at he_
    rw[if_neg om,if_neg om,if_pos om] at he_
    dsimp only at he_
    rw[if_pos om] at he_
    have hr1_:((runeD L i).1:Int)=4096*(x10.toNat:Int)+64*(x25.toNat:Int)+(x30.toNat:Int)-925824:=by rw[he_]<;>first|rfl |(dsimp only;omega)
    have hr2_:((runeD L i).2:Int)=3:=by rw[he_]<;>rfl
    exact en (.tuple #[iV (4096*(x10.toNat:Int)+64*(x25.toNat:Int)+(x30.toNat:Int)-925824),iV 3]) [] ⟨_,_,rfl,⟨by rw[hr1_,hr2_],rfl⟩,h0⟩
   refine go [.v 27 9 (oF _ c36)] ?_
   have he_:=rd_of hx11 (cB_some (j:=i+1) (by rw[show i+1=(i+1) from by omega];exact hx26) om) (cB_some (j:=i+2) (by rw[show i+2=(i+2) from by omega];exact hx31) om) rfl
   unfold decF at he_
   rw[if_neg om,if_neg om,if_pos om] at he_
   dsimp only at he_
   rw[if_pos om] at he_
   have hr1_:((runeD L i).1:Int)=4096*(x10.toNat:Int)+64*(x25.toNat:Int)+(x30.toNat:Int)-925824:=by rw[he_]<;>first|rfl |(dsimp only;omega)
   have hr2_:((runeD L i).2:Int)=3:=by rw[he_]<;>rfl
   exact en (.tuple #[iV (4096*(x10.toNat:Int)+64*(x25.toNat:Int)+(x30.toNat:Int)-925824),iV 3]) [] ⟨_,_,rfl,⟨by rw[hr1_,hr2_],rfl⟩,h0⟩
  refine go [.v 10 4 (oF _ c23),.v 14 1 (oT ((x10.toNat:Int)≥240)),.s 14 4] ?_
  by_cases c38:(x10.toNat:Int)<248;rotate_left
  ·
   refine go [.v 14 4 (oF _ c38)] ?_
   have he_:=rd_of hx11 rfl rfl rfl
   unfold decF at he_
   rw[if_neg om,if_neg om,if_neg om,if_neg om] at he_
   have hr1_:((runeD L i).1:Int)=0:=by rw[he_]<;>first|rfl |(dsimp only;omega)
   have hr2_:((runeD L i).2:Int)=0:=by rw[he_]<;>rfl
   exact en (.tuple #[iV 0,iV 0]) [] ⟨_,_,rfl,⟨by rw[hr1_,hr2_],rfl⟩,h0⟩
  refine go [.v 14 4 (oT _ c38),.v 17 1 (oIr ((x10.toNat:Int)-240)),.v 18 5 (oIr ((i:Int)+4)),.v 18 7 (⟨iV ((St L).size:Int),iV (L.length:Int),(ov_int (st_len _))⟩),.s 18 8] ?_
  by_cases c39:(i:Int)+4>(L.length:Int)
  ·
   refine go [.v 18 8 (oT _ c39)] ?_
   have he_:=rd_of hx11 rfl rfl (cB_out om)
   unfold decF at he_
   rw[if_neg om,if_neg om,if_neg om,if_pos om] at he_
   have he2_:runeD L i=(0,0):=by rw[he_];cases contB L (i+1)<;>cases contB L (i+2)<;>rfl
   replace he_:=he2_
   have hr1_:((runeD L i).1:Int)=0:=by rw[he_]<;>first|rfl |(dsimp only;omega)
   have hr2_:((runeD L i).2:Int)=0:=by rw[he_]<;>rfl
   exact en (.tuple #[iV 0,iV 0]) [] ⟨_,_,rfl,⟨by rw[hr1_,hr2_],rfl⟩,h0⟩
  refine go [.v 18 8 (oF _ c39)]<|unS 3 ?_
  obtain⟨x40,hx41⟩:=gX L (i+1) om
  have hb42:=x40.toNat_lt
  refine go [.v 23 3 (oIr ((i:Int)+1)),.s 23 4]<|lwP (yV (x40.toNat:Int)) (law_idxStr (x:=Ot 57) (i:=Ot 60) (k:= .i64) (s:=L) (z:=((i:Int)+1)) (b:=x40) kr underlying9 kr kr (i+1) om hx41 _)<|go [.v 23 5 (oIr (x40.toNat:Int)),.s 24 1] ?_
  by_cases c43:(x40.toNat:Int)<128
  ·
   refine go [.v 24 1 (oT _ c43)]<|up<|g0 ?_
   have he_:=rd_of hx11 (cB_none (j:=i+1) (by rw[show i+1=(i+1) from by omega];exact hx41) om) rfl rfl
   unfold decF at he_
   rw[if_neg om,if_neg om,if_neg om,if_pos om] at he_
   have hr1_:((runeD L i).1:Int)=0:=by rw[he_]<;>first|rfl |(dsimp only;omega)
   have hr2_:((runeD L i).2:Int)=0:=by rw[he_]<;>rfl
   exact en (.tuple #[iV 0,iV 0]) [] ⟨_,_,rfl,⟨by rw[hr1_,hr2_],rfl⟩,h0⟩
  refine go [.v 24 1 (oF _ c43),.s 24 4] ?_
  by_cases c44:(x40.toNat:Int)≥192
  ·
   refine go [.v 24 4 (oT _ c44)]<|up<|g0 ?_
   have he_:=rd_of hx11 (cB_none (j:=i+1) (by rw[show i+1=(i+1) from by omega];exact hx41) om) rfl rfl
   unfold decF at he_
   rw[if_neg om,if_neg om,if_neg om,if_pos om] at he_
   have hr1_:((runeD L i).1:Int)=0:=by rw[he_]<;>first|rfl |(dsimp only;omega)
   have hr2_:((runeD L i).2:Int)=0:=by rw[he_]<;>rfl
   exact en (.tuple #[iV 0,iV 0]) [] ⟨_,_,rfl,⟨by rw[hr1_,hr2_],rfl⟩,h0⟩
  refine go [.v 24 4 (oF _ c44),.v 26 1 (oI (((x10.toNat:Int)-240)*64) (64*(x10.toNat:Int)-15360)),.v 26 3 (oI ((64*(x10.toNat:Int)-15360)+(x40.toNat:Int)) (64*(x10.toNat:Int)+(x40.toNat:Int)-15360)),.v 26 4 (oI ((64*(x10.toNat:Int)+(x40.toNat:Int)-15360)-128) (64*(x10.toNat:Int)+(x40.toNat:Int)-15488))]<|unN ?_
  obtain⟨x45,hx46⟩:=gX L (i+2) om
  have hb47:=x45.toNat_lt
  refine go [.v 23 3 (oIr ((i:Int)+2)),.s 23 4]<|lwP (yV (x45.toNat:Int)) (law_idxStr (x:=Ot 57) (i:=Ot 60) (k:= .i64) (s:=L) (z:=((i:Int)+2)) (b:=x45) kr underlying9 kr kr (i+2) om hx46 _)<|go [.v 23 5 (oIr (x45.toNat:Int)),.s 24 1] ?_
  by_cases c48:(x45.toNat:Int)<128
  ·
   refine go [.v 24 1 (oT _ c48)]<|up<|g0 ?_
   have he_:=rd_of hx11 (cB_some (j:=i+1) (by rw[show i+1=(i+1) from by omega];exact hx41) om) (cB_none (j:=i+2) (by rw[show i+2=(i+2) from by omega];exact hx46) om) rfl
   unfold decF at he_
   rw[if_neg om,if_neg om,if_neg om,if_pos om] at he_
   have hr1_:((runeD L i).1:Int)=0:=by rw[he_]<;>first|rfl |(dsimp only;omega)
   have hr2_:((runeD L i).2:Int)=0:=by rw[he_]<;>rfl
   exact en (.tuple #[iV 0,iV 0]) [] ⟨_,_,rfl,⟨by rw[hr1_,hr2_],rfl⟩,h0⟩
  refine go [.v 24 1 (oF _ c48),.s 24 4] ?_
  by_cases c49:(x45.toNat:Int)≥192
  ·
   refine go [.v 24 4 (oT _ c49)]<|up<|g0 ?_
   have he_:=rd_of hx11 (cB_some (j:=i+1) (by rw[show i+1=(i+1) from by omega];exact hx41) om) (cB_none (j:=i+2) (by rw[show i+2=(i+2) from by omega];exact hx46) om) rfl
   unfold decF at he_
   rw[if_neg om,if_neg om,if_neg om,if_pos om] at he_
   have hr1_:((runeD L i).1:Int)=0:=by rw[he_]<;>first|rfl |(dsimp only;omega)
   have hr2_:((runeD L i).2:Int)=0:=by rw[he_]<;>rfl
   exact en (.tuple #[iV 0,iV 0]) [] ⟨_,_,rfl,⟨by rw[hr1_,hr2_],rfl⟩,h0⟩
  refine go [.v 24 4 (oF _ c49),.v 26 1 (oI ((64*(x10.toNat:Int)+(x40.toNat:Int)-15488)*64) (4096*(x10.toNat:Int)+64*(x40.toNat:Int)-991232)),.v 26 3 (oI ((4096*(x10.toNat:Int)+64*(x40.toNat:Int)-991232)+(x45.toNat:Int)) (4096*(x10.toNat:Int)+64*(x40.toNat:Int)+(x45.toNat:Int)-991232)),.v 26 4 (oI ((4096*(x10.toNat:Int)+64*(x40.toNat:Int)+(x45.toNat:Int)-991232)-128) (4096*(x10.toNat:Int)+64*(x40.toNat:Int)+(x45.toNat:Int)-991360))]<|unN ?_
  obtain⟨x50,hx51⟩:=gX L (i+3) om
  have hb52:=x50.toNat_lt
  refine go [.v 23 3 (oIr ((i:Int)+3)),.s 23 4]<|lwP (yV (x50.toNat:Int)) (law_idxStr (x:=Ot 57) (i:=Ot 60) (k:= .i64) (s:=L) (z:=((i:Int)+3)) (b:=x50) kr underlying9 kr kr (i+3) om hx51 _)<|go [.v 23 5 (oIr (x50.toNat:Int)),.s 24 1] ?_
  by_cases c53:(x50.toNat:Int)<128
  ·
   refine go [.v 24 1 (oT _ c53)]<|up<|g0 ?_
   have he_:=rd_of hx11 (cB_some (j:=i+1) (by rw[show i+1=(i+1) from by omega];exact hx41) om) (cB_some (j:=i+2) (by rw[show i+2=(i+2) from by omega];exact hx46) om) (cB_none (j:=i+3) (by rw[show i+3=(i+3) from by omega];exact hx51) om)
   unfold decF at he_
   rw[if_neg om,if_neg om,if_neg om,if_pos om] at he_
   have hr1_:((runeD L i).1:Int)=0:=by rw[he_]<;>first|rfl |(dsimp only;omega)
   have hr2_:((runeD L i).2:Int)=0:=by rw[he_]<;>rfl
   exact en (.tuple #[iV 0,iV 0]) [] ⟨_,_,rfl,⟨by rw[hr1_,hr2_],rfl⟩,h0⟩
  refine go [.v 24 1 (oF _ c53),.s 24 4] ?_
  by_cases c54:(x50.toNat:Int)≥192
  ·
   refine go [.v 24 4 (oT _ c54)]<|up<|g0 ?_
   have he_:=rd_of hx11 (cB_some (j:=i+1) (by rw[show i+1=(i+1) from by omega];exact hx41) om) (cB_some (j:=i+2) (by rw[show i+2=(i+2) from by omega];exact hx46) om) (cB_none (j:=i+3) (by rw[show i+3=(i+3) from by omega];exact hx51) om)
   unfold decF at he_
   rw[if_neg om,if_neg om,if_neg om,if_pos om] at he_
   have hr1_:((runeD L i).1:Int)=0:=by rw[he_]<;>first|rfl |(dsimp only;omega)
   have hr2_:((runeD L i).2:Int)=0:=by rw[he_]<;>rfl
   exact en (.tuple #[iV 0,iV 0]) [] ⟨_,_,rfl,⟨by rw[hr1_,hr2_],rfl⟩,h0⟩
  refine go [.v 24 4 (oF _ c54),.v 26 1 (oI ((4096*(x10.toNat:Int)+64*(x40.toNat:Int)+(x45.toNat:Int)-991360)*64) (262144*(x10.toNat:Int)+4096*(x40.toNat:Int)+64*(x45.toNat:Int)-63447040)),.v 26 3 (oI ((262144*(x10.toNat:Int)+4096*(x40.toNat:Int)+64*(x45.toNat:Int)-63447040)+(x50.toNat:Int)) (262144*(x10.toNat:Int)+4096*(x40.toNat:Int)+64*(x45.toNat:Int)+(x50.toNat:Int)-63447040)),.v 26 4 (oI ((262144*(x10.toNat:Int)+4096*(x40.toNat:Int)+64*(x45.toNat:Int)+(x50.toNat:Int)-63447040)-128) (262144*(x10.toNat:Int)+4096*(x40.toNat:Int)+64*(x45.toNat:Int)+(x50.toNat:Int)-63447168))]<|unN<|g0<|up<|go [.s 27 2] ?_
  by_cases c55:262144*(x10.toNat:Int)+4096*(x40.toNat:Int)+64*(x45.toNat:Int)+(x50.toNat:Int)-63447168<65536
  ·
   refine go [.v 27 2 (oT _ c55)] ?_
   have he_:=rd_of hx11 (cB_some (j:=i+1) (by rw[show i+1=(i+1) from by omega];exact hx41) om) (cB_some (j:=i+2) (by rw[show i+2=(i+2) from by omega];exact hx46) om) (cB_some (j:=i+3) (by rw[show i+3=(i+3) from by omega];exact hx51) om)
   unfold decF at he_
   rw[if_neg om,if_neg om,if_neg om,if_pos om] at he_
   dsimp only at he_
   rw[if_neg om] at he_
   have hr1_:((runeD L i).1:Int)=0:=by rw[he_]<;>first|rfl |(dsimp only;omega)
   have hr2_:((runeD L i).2:Int)=0:=by rw[he_]<;>rfl
   exact en (.tuple #[iV 0,iV 0]) [] ⟨_,_,rfl,⟨by rw[hr1_,hr2_],rfl⟩,h0⟩
  refine go [.v 27 2 (oF _ c55),.s 27 5] ?_
  by_cases c56:262144*(x10.toNat:Int)+4096*(x40.toNat:Int)+64*(x45.toNat:Int)+(x50.toNat:Int)-63447168>1114111
  ·
   refine go [.v 27 5 (oT _ c56)] ?_
   have he_:=rd_of hx11 (cB_some (j:=i+1) (by rw[show i+1=(i+1) from by omega];exact hx41) om) (cB_some (j:=i+2) (by rw[show i+2=(i+2) from by omega];exact hx46) om) (cB_some (j:=i+3) (by rw[show i+3=(i+3) from by omega];exact hx51) om)
   unfold decF at he_
   rw[if_neg om,if_neg om,if_neg om,if_pos om] at he_
   dsimp only at he_
   rw[if_neg om] at he_
   have hr1_:((runeD L i).1:Int)=0:=by rw[he_]<;>first|rfl |(dsimp only;omega)
   have hr2_:((runeD L i).2:Int)=0:=by rw[he_]<;>rfl
   exact en (.tuple #[iV 0,iV 0]) [] ⟨_,_,rfl,⟨by rw[hr1_,hr2_],rfl⟩,h0⟩
  refine go [.v 27 5 (oF _ c56),.v 27 9 (oT (262144*(x10.toNat:Int)+4096*(x40.toNat:Int)+64*(x45.toNat:Int)+(x50.toNat:Int)-63447168≥55296)),.v 27 12 (oF (262144*(x10.toNat:Int)+4096*(x40.toNat:Int)+64*(x45.toNat:Int)+(x50.toNat:Int)-63447168≤57343))] ?_
  have he_:=rd_of hx11 (cB_some (j:=i+1) (by rw[show i+1=(i+1) from by omega];exact hx41) om) (cB_some (j:=i+2) (by rw[show i+2=(i+2) from by omega];exact hx46) om) (cB_some (j:=i+3) (by rw[show i+3=(i+3) from by omega];exact hx51) om)
  unfold decF at he_
  rw[if_neg om,if_neg om,if_neg om,if_pos om] at he_
  dsimp only at he_
  rw[if_pos om] at he_
  have hr1_:((runeD L i).1:Int)=262144*(x10.toNat:Int)+4096*(x40.toNat:Int)+64*(x45.toNat:Int)+(x50.toNat:Int)-63447168:=by rw[he_]<;>first|rfl |(dsimp only;omega)
  have hr2_:((runeD L i).2:Int)=4:=by rw[he_]<;>rfl
  exact en (.tuple #[iV (262144*(x10.toNat:Int)+4096*(x40.toNat:Int)+64*(x45.toNat:Int)+(x50.toNat:Int)-63447168),iV 4]) [] ⟨_,_,rfl,⟨by rw[hr1_,hr2_],rfl⟩,h0⟩
 refine go [.v 6 1 (oF _ c14),.v 10 1 (oF ((x10.toNat:Int)≥224)),.v 14 1 (oF ((x10.toNat:Int)≥240))] ?_
 have he_:=rd_of hx11 rfl rfl rfl
 unfold decF at he_
 rw[if_neg om,if_neg om,if_neg om,if_neg om] at he_
 have hr1_:((runeD L i).1:Int)=0:=by rw[he_]<;>first|rfl |(dsimp only;omega)
 have hr2_:((runeD L i).2:Int)=0:=by rw[he_]<;>rfl
 exact en (.tuple #[iV 0,iV 0]) [] ⟨_,_,rfl,⟨by rw[hr1_,hr2_],rfl⟩,h0⟩
def eN(x:Nat):List Value:= [.int .i64 (x:Int)]
theorem eN_ok:Enc 1 eN:=⟨fun _=>rfl,fun x v hv=>by simp[eN] at hv;subst hv;rfl⟩
theorem rn_step{L:List UInt8}{f p:Nat}{acc:List Nat}(hr:rnD L L.length 0=(rnD L f p).map (acc++ ·))(h:p<L.length)(hf:L.length≤p+f)(hb:(runeD L p).2≠0):rnD L L.length 0=(rnD L (f-1) (p+(runeD L p).2)).map (acc++ [(runeD L p).1]++ ·):=by
 rw[hr,rn_go h hf hb]
 cases rnD L (f-1) (p+(runeD L p).2) with
 |none=>rfl
 |some l=>exact congrArg some (by simp)
theorem rn_fin{L:List UInt8}{f p:Nat}{acc:List Nat}(hr:rnD L L.length 0=(rnD L f p).map (acc++ ·))(h:L.length≤p):rnD L L.length 0=some acc:=by
 rw[hr,rn_end h]
 exact congrArg some (List.append_nil _)
theorem rn_no{L:List UInt8}{f p:Nat}{acc:List Nat}(hr:rnD L L.length 0=(rnD L f p).map (acc++ ·))(h:p<L.length)(hf:L.length≤p+f)(hb:(runeD L p).2=0):rnD L L.length 0=none:=by
 rw[hr,rn_bad h hf hb]
 rfl
theorem runes_ht(L:List UInt8)(hm:L.length≤100000):HT prog 262 [.string (St L)] [] (fun v K=>(∃(l:List Nat) (p:Option Addr) (c:Nat),rnD L L.length 0=some l∧v= .tuple #[.slice p l.length c,.bool true]∧K= [Sl 3 1 p l.length c (fl eN l)])∨(rnD L L.length 0=none∧v= .tuple #[.slice none 0 0,.bool false]∧K= [])):=by
 refine hiS func262 ntmps262 fun g w0 R h0=>g0 ?_
 have h10:sat g _ (Sl 3 1 none 0 0 (fl eN [])::_):=sl_nil 3 1 h0
 refine lpS (fun mz_ a w=> ∃p:Nat,∃f:Nat,∃acc:List Nat,∃p2:Option Addr,∃m2:Nat,∃c2:Nat,∃lr:Fr,mz_=L.length-p∧(p≤L.length+4)∧(L.length≤p+f)∧(rnD L L.length 0=(rnD L f p).map (acc++ ·))∧(m2≤p)∧a=mk 28 (([(0,.string (St L)),(4,.slice p2 m2 c2),(5,iV (p:Int))]:Fr)++lr)∧sat g w [Sl 3 1 p2 m2 c2 (fl eN acc),R]) (L.length-0) ⟨0,L.length,[],none,0,0,_,rfl,om,om,(by cases rnD L L.length 0<;>rfl),om,(lvF [.k 0 (.string (St L)),.k 4 (.slice none 0 0),.o 5 (oJ .i64 0 (0:Int))]),h10⟩ ?_
 rintro m12 a13 w14 ⟨p,f,acc,p2,m2,c2,lr11,rfl,hp_,hf_,hr_,hm2,rfl,h15⟩
 refine ga<|go [.v 3 2 (⟨iV ((St L).size:Int),iV (L.length:Int),(ov_int (st_len _))⟩),.s 3 3] ?_
 by_cases c16:(p:Int)<(L.length:Int)
 ·
  have hb17:=dec_wd L p
  refine go [.v 3 3 (oT _ c16)]<|cl0 call287 (rune_ht L p om om) h15 fun _ h19=>go [.s 5 1] ?_
  by_cases c20:(((runeD L p).2:Nat):Int)=0
  ·
   refine go [.v 5 1 (qeT _ _ c20)]<|up<|g0 ?_
   exact en (.tuple #[.slice none 0 0,.bool false]) [] ⟨_,_,rfl,.inr ⟨rn_no hr_ om om om,rfl,rfl⟩,h19.a.t1⟩
  refine go [.v 5 1 (qeF _ _ c20)]<|nG (fun q_=> .slice (some ⟨q_,0,none⟩) 1 1) 3 [iV (((runeD L p).1:Nat):Int)] h19 (fun r22 _ h24=>⟨kd [],?_⟩)
  have h25:=h24.a.t3
  refine actG ?_
  refine aA 23 1 (Ot 20) (Ot 22) (iV 0) p2 m2 c2 1 1 (⟨r22,0,none⟩) 8 underlying37 h25 (fl eN [((runeD L p).1)]) rfl (cell1 h25 rfl) (fl_one eN_ok _) (m2+1) ?_
  intro p26 cap27 w28 h29
  have h30:sat g _ (Sl 3 1 p26 (m2+1) cap27 (fl eN (acc++ [((runeD L p).1)]))::_):=sJ h29
  obtain⟨hn31,hn32⟩:=sl_le h30
  refine nxA<|go [.v 8 2 (oIr ((p:Int)+(((runeD L p).2:Nat):Int)))] ?_
  refine enL ?_
  have h34:=tk2 h30.b.a.t3
  change ∃n',n'<_∧_
  refine⟨(L.length-(p+((runeD L p).2))),by omega,p+((runeD L p).2),(f-1),(acc++ [((runeD L p).1)]),p26,m2+1,cap27,_,rfl,om,om,(rn_step hr_ om om om),om,(lvF [.k 0 (.string (St L)),.k 4 (.slice p26 (m2+1) cap27),.o 5 (oJ .i64 ((p:Int)+(((runeD L p).2:Nat):Int)) (((p+((runeD L p).2)):Nat):Int))]),h34⟩
 refine go [.v 3 3 (oF _ c16)]<|up<|g0 ?_
 have hl35:=fl_n eN_ok dc h15
 have h36:sat g _ (Sl 3 1 p2 acc.length c2 (fl eN acc)::_):=sat_imp h15 (fun _ hh_=>by rw[hl35];exact hh_)
 exact en (.tuple #[.slice p2 m2 c2,.bool true]) [] ⟨_,_,rfl,.inl ⟨acc,p2,c2,rn_fin hr_ om,by rw[hl35],rfl⟩,h36⟩
theorem dt_none{L:List UInt8}(h:rnD L L.length 0=none):tagE L=16:=by
 rw[←tagD_eq]
 unfold tagD
 rw[h]
theorem dt_len{L:List UInt8}{l:List Nat}(h:rnD L L.length 0=some l)(hl:l.length<1∨24<l.length):tagE L=16:=by
 rw[←tagD_eq]
 unfold tagD
 rw[h]
 exact if_pos hl
theorem dt_bad{L:List UInt8}{l:List Nat}{k x:Nat}(h:rnD L L.length 0=some l)(hx:l[k]? =some x)(hb:x<32∨x=127):tagE L=16:=by
 rw[←tagD_eq]
 unfold tagD
 rw[h]
 have ha:l.any badC=true:=List.any_eq_true.2 ⟨x,List.mem_of_getElem? hx,decide_eq_true hb⟩
 simp only[ha,if_true]
 split<;>rfl
theorem dt_ok{L:List UInt8}{l:List Nat}{k:Nat}(h:rnD L L.length 0=some l)(hl: ¬(l.length<1∨24<l.length))(hk:l.length≤k)(hb:(l.take k).any badC=false):tagE L=0:=by
 rw[←tagD_eq]
 unfold tagD
 rw[h]
 rw[List.take_of_length_le hk] at hb
 simp only[hb,if_neg hl]
 rfl
theorem bd_step{l:List Nat}{k x:Nat}(hb:(l.take k).any badC=false)(hx:l[k]? =some x)(hn: ¬(x<32∨x=127)):(l.take (k+1)).any badC=false:=by
 rw[List.take_add_one,hx,List.any_append,hb]
 simp[badC,hn]
theorem dtag_ht(L:List UInt8)(hm:L.length≤100000):HQ 214 [.string (St L)] [] (iV (tagE L)) []:=by
 refine hiS func214 ntmps214 fun g w0 R h0=>g0<|cP call262 (runes_ht L om) h0 ?_
 rintro v K _ (⟨l10,p11,c12,hr13,rfl,rfl⟩|⟨hr13,rfl,rfl⟩) h15
 ·
  have h16:=ap1 h15
  refine go [.s 2 5] ?_
  by_cases c17:(l10.length:Int)<1
  ·
   refine go [.v 2 5 (oT _ c17)] ?_
   exact en (iV 16) [] ⟨_,_,rfl,⟨by rw[dt_len hr13 om],rfl⟩,h16.a.t1⟩
  refine go [.v 2 5 (oF _ c17),.s 2 10] ?_
  by_cases c19:(l10.length:Int)>24
  ·
   refine go [.v 2 10 (oT _ c19)] ?_
   exact en (iV 16) [] ⟨_,_,rfl,⟨by rw[dt_len hr13 om],rfl⟩,h16.a.t1⟩
  refine go [.v 2 10 (oF _ c19)] ?_
  refine lpS (fun mz_ a w=> ∃k:Nat,∃lr:Fr,mz_=l10.length-k∧(k≤l10.length)∧((l10.take k).any badC=false)∧a=mk 41 (([(3,.slice p11 l10.length c12),(5,iV (k:Int))]:Fr)++lr)∧sat g w [Sl 3 1 p11 l10.length c12 (fl eN l10),R]) (l10.length-0) ⟨0,_,rfl,om,rfl,(lvF [.k 3 (.slice p11 l10.length c12),.o 5 (oJ .i64 0 (0:Int))]),h16⟩ ?_
  rintro m22 a23 w24 ⟨k,lr21,rfl,hk_,hb_,rfl,h25⟩
  refine ga<|go [.s 5 3] ?_
  by_cases c26:(k:Int)<(l10.length:Int)
  ·
   obtain⟨b27,hp28⟩:=sl_ptr0 (j:=0) h25 rfl om
   refine go [.v 5 3 (oT _ c26),.s 7 2]<|lwP (.pointer (some ⟨b27,k,none⟩)) (liP (Ot 29) (Ot 30) p11 b27 0 (k:Int) l10.length c12 underlying37 1 k hp28 k) ?_
   obtain⟨x29,hx30⟩:=gX l10 k om
   refine go [.r 7 3 b27 k [iV (x29:Int)] ⟨gvc 0 h25 rfl hp28 eN_ok 0 (iV (x29:Int)) hx30 k,trivial⟩,.s 7 4] ?_
   by_cases c31:(x29:Int)<32
   ·
    refine go [.v 7 4 (oT _ c31)]<|up<|g0 ?_
    exact en (iV 16) [] ⟨_,_,rfl,⟨by rw[dt_bad hr13 hx30 om],rfl⟩,h25.a.t1⟩
   refine go [.v 7 4 (oF _ c31),.s 7 8]<|lwP (.pointer (some ⟨b27,k,none⟩)) (liP (Ot 35) (Ot 36) p11 b27 0 (k:Int) l10.length c12 underlying37 1 k hp28 k)<|go [.r 7 9 b27 k [iV (x29:Int)] ⟨gvc 0 h25 rfl hp28 eN_ok 0 (iV (x29:Int)) hx30 k,trivial⟩,.s 7 10] ?_
   by_cases c33:(x29:Int)=127
   ·
    refine go [.v 7 10 (qeT _ _ c33)]<|up<|g0 ?_
    exact en (iV 16) [] ⟨_,_,rfl,⟨by rw[dt_bad hr13 hx30 om],rfl⟩,h25.a.t1⟩
   refine go [.v 7 10 (qeF _ _ c33),.v 6 1 (oIr ((k:Int)+1))] ?_
   exact enN (l10.length-(k+1)) ⟨(k+1),_,rfl,om,(bd_step hb_ hx30 om),(lvF [.k 3 (.slice p11 l10.length c12),.o 5 (oJ .i64 ((k:Int)+1) (((k+1):Nat):Int))]),h25⟩
  refine go [.v 5 3 (oF _ c26)]<|up<|g0 ?_
  exact en (iV 0) [] ⟨_,_,rfl,⟨by rw[dt_ok hr13 om om hb_],rfl⟩,h25.a.t1⟩
 have h36:=ap0 h15
 refine g0 ?_
 exact en (iV 16) [] ⟨_,_,rfl,⟨by rw[dt_none hr13],rfl⟩,h36⟩
end Go.Proofs.YtehlamblpekmkaaGreatDoor
