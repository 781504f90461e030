/- Walks, printed by my generator P:../tab/gen20.py. -/
import Derived.Test.YtcgkoffnknpgjaaGreatDoorBundle27
import Derived.Test.YtcgkoffnknpgjaaGreatDoorHq
import Derived.Test.YtcgkoffnknpgjaaGreatDoorWfm
namespace Go.Proofs.YtcgkoffnknpgjaaGreatDoor
set_option linter.unusedVariables false
set_option linter.unusedSimpArgs false
open Tryz
set_option maxHeartbeats 4000000
def TW(b n:Nat)(S:Ts):Assn:=Wi (Wf n S) (Tab b n S.A S.E S.R)
theorem opn_bad{S:Ts}{o:Ky}{L:List UInt8}{h:Int×Int}{e:Int}(h0:topE S o L h=e)(he:e≠0):opnS S o L h=S∧opnD S o L h=(0,0,0):=by
 unfold opnS opnD
 rw[if_neg om,if_neg om]
 exact⟨rfl,rfl⟩
theorem has_not{E:Tm}{h:Int×Int}(hh: ¬hasH E h): ∀e∈allE E,e.h≠h:=fun e h1 h2=>hh ⟨e,h1,h2⟩
theorem haso_not{R:List Rs}{o:Ky}(hh: ¬hasO R o): ∀r∈R,r.out≠o:=fun e h1 h2=>hh ⟨e,h1,h2⟩
theorem obj_not{hx hy:Int}(h: ¬objH (hx,hy)):hx<0∨255<hx∨hy≤0:=by
 unfold objH at h
 simp only at h
 omega
theorem tky3{p:Ky}{x y z:Int}(h:p=(x,y,z)):p.1=x∧p.2.1=y∧p.2.2=z:=by subst h;exact⟨rfl,rfl,rfl⟩
theorem ky3n{p:Ky}{x y z:Int}(h:p≠(x,y,z)): ¬(p.1=x∧p.2.1=y∧p.2.2=z):=fun h2=>h (Prod.ext h2.1 (Prod.ext h2.2.1 h2.2.2))
theorem free_len{A:List Sl2}{j:Nat}{g:Int}(h:freeS A=some (j,g)):1≤(inS 0 A 0).length:=by
 have:=(List.getElem?_eq_some_iff.1 h).1
 omega
theorem topen_w(b n:Nat)(S:Ts)(x y z hx hy:Int)(L:List UInt8)(hz0:0≤z)(hz1:z≤4294967295)(hm:L.length≤1099511627776):HQ 206 [pV b,Value.agg #[iV x,iV y,uV z],Value.string (St L),Value.agg #[iV hx,uV hy]] [TW b n S] (Value.tuple #[Value.agg #[iV ((opnD S (x,y,z) L (hx,hy)).1),iV ((opnD S (x,y,z) L (hx,hy)).2.1),uV ((opnD S (x,y,z) L (hx,hy)).2.2)],iV (topE S (x,y,z) L (hx,hy))]) [TW b n (opnS S (x,y,z) L (hx,hy))]:=by
 refine ht_wi (fun W=> ?_) (fun W=>wf_opn W hz1 _ _)
 have bad: ∀e:Int,topE S (x,y,z) L (hx,hy)=e→e≠0→HT prog 206 [pV b,Value.agg #[iV x,iV y,uV z],Value.string (St L),Value.agg #[iV hx,uV hy]] [Tab b n S.A S.E S.R] (fun v K=>v=Value.tuple #[Value.agg #[Value.int .i64 0,Value.int .i64 0,Value.int .u32 0],Value.int .i64 e]∧K= [Tab b n S.A S.E S.R])→HT prog 206 [pV b,Value.agg #[iV x,iV y,uV z],Value.string (St L),Value.agg #[iV hx,uV hy]] [Tab b n S.A S.E S.R] (fun v K=>v=Value.tuple #[Value.agg #[iV ((opnD S (x,y,z) L (hx,hy)).1),iV ((opnD S (x,y,z) L (hx,hy)).2.1),uV ((opnD S (x,y,z) L (hx,hy)).2.2)],iV (topE S (x,y,z) L (hx,hy))]∧K= [Tab b n (opnS S (x,y,z) L (hx,hy)).A (opnS S (x,y,z) L (hx,hy)).E (opnS S (x,y,z) L (hx,hy)).R]):=fun e h1 h2 h3=>by
  rw[(opn_bad h1 h2).1,(opn_bad h1 h2).2,h1]
  exact h3
 rcases newE_cases (x,y,z) L with ⟨h1,h2⟩|⟨h1,h2⟩
 · exact bad 2 (by unfold topE;rw[if_pos om,h2]) om (topen_out b n S.A S.E S.R x y z hx hy L hz0 hz1 hm h1)
 · rcases tagE_or L with h3|h3
   · rw[h3] at h2
     by_cases h4:objH (hx,hy)
     · have hob:0≤hx∧hx≤255∧1≤hy:=h4
       by_cases h5:hasO S.R (x,y,z)
       · exact bad 6 (by unfold topE;rw[if_neg om,if_neg (not_not_intro h4),if_pos (.inl h5)]) om (topen_out2 b n S.A S.E S.R x y z hx hy L hz0 hz1 hm h1 h3 hob h5)
       · by_cases h6:hasH S.E (hx,hy)
         · exact bad 6 (by unfold topE;rw[if_neg om,if_neg (not_not_intro h4),if_pos (.inr h6)]) om (topen_have b n S.A S.E S.R x y z hx hy L hz0 hz1 hm h1 h3 hob (haso_not h5) h6)
         · have h56: ¬(hasO S.R (x,y,z)∨hasH S.E (hx,hy)):=fun h=>h.elim h5 h6
           by_cases h7:S.R.length=2000∨(inS 0 S.A 0).length=0
           · exact bad 4 (by unfold topE;rw[if_neg om,if_neg (not_not_intro h4),if_neg h56,if_pos (h7.imp (fun h=>by omega) (fun h=>freeS_none.2 h))]) om (topen_full b n S.A S.E S.R x y z hx hy L hz0 hz1 hm h1 h3 hob (haso_not h5) (has_not h6) h7)
           · have hl:=W.rl
             cases h8:freeS S.A with
             |none=>exact absurd (.inr (freeS_none.1 h8)) h7
             |some p=>
              obtain⟨j,g⟩:=p
              have h0:topE S (x,y,z) L (hx,hy)=0:=by unfold topE;rw[if_neg om,if_neg (not_not_intro h4),if_neg h56,if_neg (fun h=>h.elim (fun h=>h7 (.inl om)) (fun h=>by rw[h8] at h;cases h))]
              have hS:opnS S (x,y,z) L (hx,hy)=⟨S.A.set j (1,g),gset S.E (j:Int) ⟨(x,(j:Int),g),(S.R.length:Int)+1,(hx,hy)⟩,S.R++ [⟨(x,y,z),1,0,0,0,L⟩]⟩:=by
               unfold opnS addS
               rw[if_pos h0]
               simp only[h8]
              have hD:opnD S (x,y,z) L (hx,hy)=(x,(j:Int),g):=by
               unfold opnD addD
               rw[if_pos h0]
               simp only[h8]
              rw[hS,hD,h0]
              exact topen_ok b n S.A S.E S.R x y z hx hy L hz0 hz1 hm h1 h3 hob (haso_not h5) (has_not h6) om j g h8 (free_len h8)
     · exact bad 2 (by unfold topE;rw[if_neg om,if_pos h4]) om (topen_arg b n S.A S.E S.R x y z hx hy L hz0 hz1 hm h1 h3 (obj_not h4))
   · rw[h3] at h2
     exact bad 16 (by unfold topE;rw[if_pos om,h2]) om (topen_tag b n S.A S.E S.R x y z hx hy L hz0 hz1 hm h1 om)
theorem cls_bad{S:Ts}{d:Ky}{e:Int}(h0:fndE S d=e)(he:e≠0):clsS S d=S∧clsL S d=false:=by
 unfold clsS clsL
 rw[if_neg om,decide_eq_false (fun h=>by omega)]
 exact⟨rfl,rfl⟩
theorem tcls_ok{S:Ts}{d:Ky}(h0:fndE S d=0):clsS S d=dropS S d∧clsL S d=decide ((descs (dropS S d).E (fndX S d).num).length=0):=by
 unfold clsS clsL
 rw[if_pos h0]
 exact⟨rfl,by rw[decide_eq_decide];exact⟨fun h=>h.2,fun h=>⟨h0,h⟩⟩⟩
theorem tclose_w(b n:Nat)(S:Ts)(x y z:Int)(hz0:0≤z)(hz1:z≤4294967295):HQ 288 [pV b,Value.agg #[iV x,iV y,uV z]] [TW b n S] (Value.tuple #[iV ((fndX S (x,y,z)).num),Value.bool (clsL S (x,y,z)),iV (fndE S (x,y,z))]) [TW b n (clsS S (x,y,z))]:=by
 refine ht_wi (fun W=> ?_) (fun W=>wf_cls W _)
 rcases fnd_cases S (x,y,z) with ⟨hg,h1,h2⟩|⟨hg,hn,h1,h2⟩|⟨hg,e,he,hd,h1,h2⟩
 · rw[(cls_bad h1 om).1,(cls_bad h1 om).2,h1,h2]
   exact tclose_bad b n S.A S.E S.R x y z hz0 hz1 hg
 · rw[(cls_bad h1 om).1,(cls_bad h1 om).2,h1,h2]
   cases he:gget S.E y with
   |none=>exact tclose_none b n S.A S.E S.R x y z hz0 hz1 hg he
   |some e=>exact tclose_diff b n S.A S.E S.R x y z e hz0 hz1 hg he (ky3n (hn e he))
 · obtain⟨q,h3,_,h4⟩:=wf_slot W he
   have h3':y=(q:Int):=h3
   have hq:y.toNat=q:=by omega
   obtain⟨_,_,⟨q2,r,h7,h8,_⟩,_⟩:=W.ent _ e he
   have hl:=(List.getElem?_eq_some_iff.1 h7).1
   rw[hd] at h4
   rw[(tcls_ok h1).1,(tcls_ok h1).2,h1,h2]
   unfold dropS
   simp only[hq]
   exact tclose_ok b n S.A S.E S.R x y z e hz0 hz1 hg he (tky3 hd) q (1,z) h4 ⟨h3',rfl,rfl⟩ ⟨by omega,by omega⟩
theorem tnum_w(b n:Nat)(S:Ts)(x y z:Int)(hz0:0≤z)(hz1:z≤4294967295):HQ 282 [pV b,Value.agg #[iV x,iV y,uV z]] [TW b n S] (Value.tuple #[iV ((fndX S (x,y,z)).num),iV (fndE S (x,y,z))]) [TW b n S]:=by
 refine ht_wi (fun W=> ?_) (fun W=>W)
 rcases fnd_cases S (x,y,z) with ⟨hg,h1,h2⟩|⟨hg,hn,h1,h2⟩|⟨hg,e,he,hd,h1,h2⟩
 · rw[h1,h2]
   exact tnum_bad b n S.A S.E S.R x y z hz0 hz1 hg
 · rw[h1,h2]
   cases he:gget S.E y with
   |none=>exact tnum_none b n S.A S.E S.R x y z hz0 hz1 hg he
   |some e=>exact tnum_diff b n S.A S.E S.R x y z e hz0 hz1 hg he (ky3n (hn e he))
 · rw[h1,h2]
   exact tnum_ok b n S.A S.E S.R x y z e hz0 hz1 hg he (tky3 hd)
theorem tget_w(b n:Nat)(S:Ts)(vn:Int):HQ 210 [pV b,iV vn] [TW b n S] (Value.tuple #[Value.agg #[iV ((getR S vn).out.1),iV ((getR S vn).out.2.1),uV ((getR S vn).out.2.2),iV ((getR S vn).st),iV ((getR S vn).why),iV ((getR S vn).tr),iV ((getR S vn).nx),Value.string (St ((getR S vn).tag))],iV (nE S vn)]) [TW b n S]:=by
 refine ht_wi (fun W=> ?_) (fun W=>W)
 unfold nE
 by_cases h:1≤vn∧vn≤(S.R.length:Int)
 · rw[if_pos h]
   exact tget_ok b n S.A S.E S.R vn (vn-1).toNat (getR S vn) (getR_at h) om
 · rw[if_neg h,getR_no h]
   exact tget_no b n S.A S.E S.R vn om
theorem tlen_w(b n:Nat)(S:Ts):HQ 54 [pV b] [TW b n S] (iV (S.R.length:Int)) [TW b n S]:=by
 exact ht_wi (fun W=>tlen_ht b n S.A S.E S.R) (fun W=>W)
theorem troom_w(b n:Nat)(S:Ts):HQ 268 [pV b] [TW b n S] (iV (((inS 0 S.A 0).length:Nat):Int)) [TW b n S]:=by
 exact ht_wi (fun W=>troom_ht b n S.A S.E S.R) (fun W=>W)
theorem tnew_w(n:Nat)(gn:Int)(hn:1≤n∧n≤256)(hg:1≤gn∧gn≤4294967295):HT prog 31 [iV n,uV gn] [] (fun v K=> ∃b:Nat,v=Value.tuple #[pV b,Value.int .i64 0]∧K= [TW b n ⟨List.replicate n (0,gn),[],[]⟩]):=
 (tnew_ok n gn hn hg).post fun v K hP=>by
  obtain⟨b,h1,h2⟩:=hP
  exact⟨_,⟨b,h1,rfl⟩,fun g w F hs=>by rw[h2] at hs;exact wi_in (wf_new hn hg) hs⟩
theorem seq48_neq_t{n:Nat}{l:Fr}{o:Oper}{x y:Operand}(a0 a1 a2 c0 c1 c2:Int)(ho:o.op= .binOp .neq 48 x y 48)(hx:fe n l x= .agg #[iV a0,iV a1,uV a2])(hy:fe n l y= .agg #[iV c0,iV c1,uV c2])(h:a0=c0∧a1=c1∧a2=c2)(w:World):(execOp (fe n l) o).run prog w= .ok (.value (.bool false)) w:=by
 obtain⟨rfl,rfl,rfl⟩:=h
 simp[execOp,ho,hx,hy,go_sem]
theorem seq48_neq_f{n:Nat}{l:Fr}{o:Oper}{x y:Operand}(a0 a1 a2 c0 c1 c2:Int)(ho:o.op= .binOp .neq 48 x y 48)(hx:fe n l x= .agg #[iV a0,iV a1,uV a2])(hy:fe n l y= .agg #[iV c0,iV c1,uV c2])(h: ¬(a0=c0∧a1=c1∧a2=c2))(w:World):(execOp (fe n l) o).run prog w= .ok (.value (.bool true)) w:=by
 by_cases h0:a0=c0
 · skip
   by_cases h1:a1=c1
   · skip
     by_cases h2:a2=c2
     · exact absurd ⟨h0,h1,h2⟩ h
     · simp[execOp,ho,hx,hy,go_sem,h0,h1,h2]
   · simp[execOp,ho,hx,hy,go_sem,h0,h1]
 · simp[execOp,ho,hx,hy,go_sem,h0]
theorem tset_out(b n:Nat)(A:List Sl2)(E:Tm)(RL:List Rs)(vn x y z st why tr nx:Int)(L:List UInt8)(hz0:0≤z)(hz1:z≤4294967295)(hm:L.length≤1099511627776)(q:Nat)(r:Rs)(hr:RL[q]? =some r)(hv:vn=(q:Int)+1)(he:resE x y z st why tr nx L=0)(ho: ¬(x=r.out.1∧y=r.out.2.1∧z=r.out.2.2)):HQ 316 [pV b,iV vn,.agg #[iV x,iV y,uV z,iV st,iV why,iV tr,iV nx,.string (St L)]] [Tab b n A E RL] (iV 2) [Tab b n A E RL]:=by
 have hq_:=(List.getElem?_eq_some_iff.1 hr).1
 refine hiS func316 ntmps316 fun g w0 R h0=>g0<|nP 226 [iV x,iV y,uV z,iV st,iV why,iV tr,iV nx,.string (St L)] h0 (fun _ _ h12=> ?_)
 have h13:=h12.a.t3
 refine g0<|cl1 call210 (tget_ok b n A E RL vn q r hr om) h13 fun _ h15=>g0<|nP 226 [iV 0,iV 0,uV 0,iV 0,iV 0,iV 0,iV 0,.string (St [])] h15 (fun _ _ h18=> ?_)
 refine sA [iV r.out.1,iV r.out.2.1,uV r.out.2.2,iV r.st,iV r.why,iV r.tr,iV r.nx,.string (St r.tag)] h18 fun _ h20=>go [rd 4 0 2 0 8 h20]<|cl0 call352 (rchk_ht x y z st why tr nx L om om om) h20 fun _ h22=> ?_
 have h25:=h22.a.t4
 refine go [.v 5 1 (qnF (resE x y z st why tr nx L) 0)]<|cP call307 (tdescs_ok b n A E RL vn om) h25 ?_
 rintro v K _ (⟨p23,c24,rfl,rfl⟩) h27
 have h28:=ap2 h27
 refine go [rd 8 1 3 0 3 h28,rd 8 3 2 0 3 h28,.s 8 4] ?_
 by_cases c29:x=r.out.1
 ·
  by_cases c30:y=r.out.2.1
  ·
   refine lwP (.bool true) (seq48_neq_f (x:=Ot 33) (y:=Ot 35) x y z r.out.1 r.out.2.1 r.out.2.2 kr kr kr om _)<|g0 ?_
   exact enR _ [] h28.d.a.t2
  refine lwP (.bool true) (seq48_neq_f (x:=Ot 33) (y:=Ot 35) x y z r.out.1 r.out.2.1 r.out.2.2 kr kr kr om _)<|g0 ?_
  exact enR _ [] h28.d.a.t2
 refine lwP (.bool true) (seq48_neq_f (x:=Ot 33) (y:=Ot 35) x y z r.out.1 r.out.2.1 r.out.2.2 kr kr kr om _)<|g0 ?_
 exact enR _ [] h28.d.a.t2
theorem tset_tag(b n:Nat)(A:List Sl2)(E:Tm)(RL:List Rs)(vn x y z st why tr nx:Int)(L:List UInt8)(hz0:0≤z)(hz1:z≤4294967295)(hm:L.length≤1099511627776)(q:Nat)(r:Rs)(hr:RL[q]? =some r)(hv:vn=(q:Int)+1)(he:resE x y z st why tr nx L=0)(ho:x=r.out.1∧y=r.out.2.1∧z=r.out.2.2)(ht: ¬L=r.tag):HQ 316 [pV b,iV vn,.agg #[iV x,iV y,uV z,iV st,iV why,iV tr,iV nx,.string (St L)]] [Tab b n A E RL] (iV 2) [Tab b n A E RL]:=by
 have hq_:=(List.getElem?_eq_some_iff.1 hr).1
 refine hiS func316 ntmps316 fun g w0 R h0=>g0<|nP 226 [iV x,iV y,uV z,iV st,iV why,iV tr,iV nx,.string (St L)] h0 (fun _ _ h12=> ?_)
 have h13:=h12.a.t3
 refine g0<|cl1 call210 (tget_ok b n A E RL vn q r hr om) h13 fun _ h15=>g0<|nP 226 [iV 0,iV 0,uV 0,iV 0,iV 0,iV 0,iV 0,.string (St [])] h15 (fun _ _ h18=> ?_)
 refine sA [iV r.out.1,iV r.out.2.1,uV r.out.2.2,iV r.st,iV r.why,iV r.tr,iV r.nx,.string (St r.tag)] h18 fun _ h20=>go [rd 4 0 2 0 8 h20]<|cl0 call352 (rchk_ht x y z st why tr nx L om om om) h20 fun _ h22=> ?_
 have h25:=h22.a.t4
 refine go [.v 5 1 (qnF (resE x y z st why tr nx L) 0)]<|cP call307 (tdescs_ok b n A E RL vn om) h25 ?_
 rintro v K _ (⟨p23,c24,rfl,rfl⟩) h27
 have h28:=ap2 h27
 refine go [rd 8 1 3 0 3 h28,rd 8 3 2 0 3 h28,.s 8 4]<|lwP (.bool false) (seq48_neq_t (x:=Ot 33) (y:=Ot 35) x y z r.out.1 r.out.2.1 r.out.2.2 kr kr kr ⟨om,om,om⟩ _)<|go [rd 8 7 3 7 1 h28,rd 8 9 2 7 1 h28,.s 8 10]<|lwP (.bool true) (law_neStr (t:=9) (x:=Ot 39) (y:=Ot 41) (a:=L) (b:=r.tag) kr kr kr true ((decide_eq_false ht).trans rfl) _)<|g0 ?_
 exact enR _ [] h28.d.a.t2
theorem tset_state(b n:Nat)(A:List Sl2)(E:Tm)(RL:List Rs)(vn x y z st why tr nx:Int)(L:List UInt8)(hz0:0≤z)(hz1:z≤4294967295)(hm:L.length≤1099511627776)(q:Nat)(r:Rs)(hr:RL[q]? =some r)(hv:vn=(q:Int)+1)(he:resE x y z st why tr nx L=0)(ho:x=r.out.1∧y=r.out.2.1∧z=r.out.2.2)(ht:L=r.tag)(hs:st≠1)(hd:0<(descs E vn).length):HQ 316 [pV b,iV vn,.agg #[iV x,iV y,uV z,iV st,iV why,iV tr,iV nx,.string (St L)]] [Tab b n A E RL] (iV 8) [Tab b n A E RL]:=by
 have hq_:=(List.getElem?_eq_some_iff.1 hr).1
 refine hiS func316 ntmps316 fun g w0 R h0=>g0<|nP 226 [iV x,iV y,uV z,iV st,iV why,iV tr,iV nx,.string (St L)] h0 (fun _ _ h12=> ?_)
 have h13:=h12.a.t3
 refine g0<|cl1 call210 (tget_ok b n A E RL vn q r hr om) h13 fun _ h15=>g0<|nP 226 [iV 0,iV 0,uV 0,iV 0,iV 0,iV 0,iV 0,.string (St [])] h15 (fun _ _ h18=> ?_)
 refine sA [iV r.out.1,iV r.out.2.1,uV r.out.2.2,iV r.st,iV r.why,iV r.tr,iV r.nx,.string (St r.tag)] h18 fun _ h20=>go [rd 4 0 2 0 8 h20]<|cl0 call352 (rchk_ht x y z st why tr nx L om om om) h20 fun _ h22=> ?_
 have h25:=h22.a.t4
 refine go [.v 5 1 (qnF (resE x y z st why tr nx L) 0)]<|cP call307 (tdescs_ok b n A E RL vn om) h25 ?_
 rintro v K _ (⟨p23,c24,rfl,rfl⟩) h27
 have h28:=ap2 h27
 refine go [rd 8 1 3 0 3 h28,rd 8 3 2 0 3 h28,.s 8 4]<|lwP (.bool false) (seq48_neq_t (x:=Ot 33) (y:=Ot 35) x y z r.out.1 r.out.2.1 r.out.2.2 kr kr kr ⟨om,om,om⟩ _)<|go [rd 8 7 3 7 1 h28,rd 8 9 2 7 1 h28,.s 8 10]<|lwP (.bool false) (law_neStr (t:=9) (x:=Ot 39) (y:=Ot 41) (a:=L) (b:=r.tag) kr kr kr false (decide_eq_true ht) _)<|go [rd 10 1 3 3 1 h28,.v 10 2 (qnT st 1),.v 10 6 (oT ((((descs E vn).length:Nat):Int)>0))] ?_
 exact enR _ [] h28.d.a.t2
theorem tset_ok1(b n:Nat)(A:List Sl2)(E:Tm)(RL:List Rs)(vn x y z st why tr nx:Int)(L:List UInt8)(hz0:0≤z)(hz1:z≤4294967295)(hm:L.length≤1099511627776)(q:Nat)(r:Rs)(hr:RL[q]? =some r)(hv:vn=(q:Int)+1)(he:resE x y z st why tr nx L=0)(ho:x=r.out.1∧y=r.out.2.1∧z=r.out.2.2)(ht:L=r.tag)(hs:st=1):HQ 316 [pV b,iV vn,.agg #[iV x,iV y,uV z,iV st,iV why,iV tr,iV nx,.string (St L)]] [Tab b n A E RL] (iV 0) [Tab b n A E (RL.set q ⟨(x,y,z),st,why,tr,nx,L⟩)]:=by
 have hq_:=(List.getElem?_eq_some_iff.1 hr).1
 refine hiS func316 ntmps316 fun g w0 R h0=>g0<|nP 226 [iV x,iV y,uV z,iV st,iV why,iV tr,iV nx,.string (St L)] h0 (fun r10 _ h12=> ?_)
 have h13:=h12.a.t3
 refine g0<|cl1 call210 (tget_ok b n A E RL vn q r hr om) h13 fun _ h15=>g0<|nP 226 [iV 0,iV 0,uV 0,iV 0,iV 0,iV 0,iV 0,.string (St [])] h15 (fun r16 _ h18=> ?_)
 refine sA [iV r.out.1,iV r.out.2.1,uV r.out.2.2,iV r.st,iV r.why,iV r.tr,iV r.nx,.string (St r.tag)] h18 fun _ h20=>go [rd 4 0 2 0 8 h20]<|cl0 call352 (rchk_ht x y z st why tr nx L om om om) h20 fun _ h22=> ?_
 have h25:=h22.a.t4
 refine go [.v 5 1 (qnF (resE x y z st why tr nx L) 0)]<|cP call307 (tdescs_ok b n A E RL vn om) h25 ?_
 rintro v K _ (⟨p23,c24,rfl,rfl⟩) h27
 have h28:=ap2 h27
 refine go [rd 8 1 3 0 3 h28,rd 8 3 2 0 3 h28,.s 8 4]<|lwP (.bool false) (seq48_neq_t (x:=Ot 33) (y:=Ot 35) x y z r.out.1 r.out.2.1 r.out.2.2 kr kr kr ⟨om,om,om⟩ _)<|go [rd 8 7 3 7 1 h28,rd 8 9 2 7 1 h28,.s 8 10]<|lwP (.bool false) (law_neStr (t:=9) (x:=Ot 39) (y:=Ot 41) (a:=L) (b:=r.tag) kr kr kr false (decide_eq_true ht) _)<|go [rd 10 1 3 3 1 h28,.v 10 2 (qnF st 1)]<|dw (fls [0,1,2,3,4,5,6,7] (Tr.an 8 Tr.nil)) h28 fun _ h30=> ?_
 obtain⟨s31,m32,p33,c34,E35,hM36,h37⟩:=tab_open h30
 have hRl_:=hM36.2
 obtain⟨b38,hp39⟩:=sl_ptr0 (j:=3) h37 rfl om
 refine go [rd 12 3 0 2 1 h37,.v 12 5 (oIr (vn-1)),rd 12 6 6 0 8 h37,.s 12 7]<|lw (.pointer (some ⟨b38,q*8,none⟩)) (fun _=>liP (Ot 56) (Ot 58) p33 b38 0 (vn-1) RL.length c34 underlying175 8 q hp39 (q*8)) ?_
 have h40:=h37.c.t8
 refine actG ?_
 have hl43:=fl_n eRs_ok dc h40
 refine an_storeSl (b:=b38) [(q*8,iV x),(q*8+1,iV y),(q*8+2,uV z),(q*8+3,iV st),(q*8+4,iV why),(q*8+5,iV tr),(q*8+6,iV nx),(q*8+7,.string (St L))] (cs':=(fl eRs (RL.set q ⟨(x,y,z),st,why,tr,nx,L⟩))) kr kr hp39 (allq ⟨⟨by omega,rfl⟩,⟨by omega,rfl⟩,⟨by omega,rfl⟩,⟨by omega,rfl⟩,⟨by omega,rfl⟩,⟨by omega,rfl⟩,⟨by omega,rfl⟩,⟨by omega,rfl⟩,trivial⟩) om (fl_upd eRs_ok (i:=q) (x:=r) (y:=⟨(x,y,z),st,why,tr,nx,L⟩) hr [(0,iV x),(1,iV y),(2,uV z),(3,iV st),(4,iV why),(5,iV tr),(6,iV nx),(7,.string (St L))] rfl rfl rfl) h40 ?_
 intro w41 h42
 refine⟨kd [],nxN ?_⟩
 refine g0 ?_
 have h45:sat g _ (Tab b n A E (RL.set q ⟨(x,y,z),st,why,tr,nx,L⟩)::_):=tab_close hM36.1 (by simp only[List.length_append,List.length_set,List.length_cons,List.length_nil];omega) (by simp only[List.length_append,List.length_set,List.length_cons,List.length_nil]) h42.c.c.c.t8
 exact enR _ [] h45.d.a.t2
theorem tset_ok2(b n:Nat)(A:List Sl2)(E:Tm)(RL:List Rs)(vn x y z st why tr nx:Int)(L:List UInt8)(hz0:0≤z)(hz1:z≤4294967295)(hm:L.length≤1099511627776)(q:Nat)(r:Rs)(hr:RL[q]? =some r)(hv:vn=(q:Int)+1)(he:resE x y z st why tr nx L=0)(ho:x=r.out.1∧y=r.out.2.1∧z=r.out.2.2)(ht:L=r.tag)(hd:(descs E vn).length=0):HQ 316 [pV b,iV vn,.agg #[iV x,iV y,uV z,iV st,iV why,iV tr,iV nx,.string (St L)]] [Tab b n A E RL] (iV 0) [Tab b n A E (RL.set q ⟨(x,y,z),st,why,tr,nx,L⟩)]:=by
 have hq_:=(List.getElem?_eq_some_iff.1 hr).1
 refine hiS func316 ntmps316 fun g w0 R h0=>g0<|nP 226 [iV x,iV y,uV z,iV st,iV why,iV tr,iV nx,.string (St L)] h0 (fun r10 _ h12=> ?_)
 have h13:=h12.a.t3
 refine g0<|cl1 call210 (tget_ok b n A E RL vn q r hr om) h13 fun _ h15=>g0<|nP 226 [iV 0,iV 0,uV 0,iV 0,iV 0,iV 0,iV 0,.string (St [])] h15 (fun r16 _ h18=> ?_)
 refine sA [iV r.out.1,iV r.out.2.1,uV r.out.2.2,iV r.st,iV r.why,iV r.tr,iV r.nx,.string (St r.tag)] h18 fun _ h20=>go [rd 4 0 2 0 8 h20]<|cl0 call352 (rchk_ht x y z st why tr nx L om om om) h20 fun _ h22=> ?_
 have h25:=h22.a.t4
 refine go [.v 5 1 (qnF (resE x y z st why tr nx L) 0)]<|cP call307 (tdescs_ok b n A E RL vn om) h25 ?_
 rintro v K _ (⟨p23,c24,rfl,rfl⟩) h27
 have h28:=ap2 h27
 refine go [rd 8 1 3 0 3 h28,rd 8 3 2 0 3 h28,.s 8 4]<|lwP (.bool false) (seq48_neq_t (x:=Ot 33) (y:=Ot 35) x y z r.out.1 r.out.2.1 r.out.2.2 kr kr kr ⟨om,om,om⟩ _)<|go [rd 8 7 3 7 1 h28,rd 8 9 2 7 1 h28,.s 8 10]<|lwP (.bool false) (law_neStr (t:=9) (x:=Ot 39) (y:=Ot 41) (a:=L) (b:=r.tag) kr kr kr false (decide_eq_true ht) _)<|go [rd 10 1 3 3 1 h28,.s 10 2] ?_
 by_cases c29:st=1
 ·
  refine go [.v 10 2 (qnF st 1)]<|dw (fls [0,1,2,3,4,5,6,7] (Tr.an 8 Tr.nil)) h28 fun _ h31=> ?_
  obtain⟨s32,m33,p34,c35,E36,hM37,h38⟩:=tab_open h31
  have hRl_:=hM37.2
  obtain⟨b39,hp40⟩:=sl_ptr0 (j:=3) h38 rfl om
  refine go [rd 12 3 0 2 1 h38,.v 12 5 (oIr (vn-1)),rd 12 6 6 0 8 h38,.s 12 7]<|lw (.pointer (some ⟨b39,q*8,none⟩)) (fun _=>liP (Ot 56) (Ot 58) p34 b39 0 (vn-1) RL.length c35 underlying175 8 q hp40 (q*8)) ?_
  have h41:=h38.c.t8
  refine actG ?_
  have hl44:=fl_n eRs_ok dc h41
  refine an_storeSl (b:=b39) [(q*8,iV x),(q*8+1,iV y),(q*8+2,uV z),(q*8+3,iV st),(q*8+4,iV why),(q*8+5,iV tr),(q*8+6,iV nx),(q*8+7,.string (St L))] (cs':=(fl eRs (RL.set q ⟨(x,y,z),st,why,tr,nx,L⟩))) kr kr hp40 (allq ⟨⟨by omega,rfl⟩,⟨by omega,rfl⟩,⟨by omega,rfl⟩,⟨by omega,rfl⟩,⟨by omega,rfl⟩,⟨by omega,rfl⟩,⟨by omega,rfl⟩,⟨by omega,rfl⟩,trivial⟩) om (fl_upd eRs_ok (i:=q) (x:=r) (y:=⟨(x,y,z),st,why,tr,nx,L⟩) hr [(0,iV x),(1,iV y),(2,uV z),(3,iV st),(4,iV why),(5,iV tr),(6,iV nx),(7,.string (St L))] rfl rfl rfl) h41 ?_
  intro w42 h43
  refine⟨kd [],nxN ?_⟩
  refine g0 ?_
  have h46:sat g _ (Tab b n A E (RL.set q ⟨(x,y,z),st,why,tr,nx,L⟩)::_):=tab_close hM37.1 (by simp only[List.length_append,List.length_set,List.length_cons,List.length_nil];omega) (by simp only[List.length_append,List.length_set,List.length_cons,List.length_nil]) h43.c.c.c.t8
  exact enR _ [] h46.d.a.t2
 refine go [.v 10 2 (qnT st 1),.v 10 6 (oF ((((descs E vn).length:Nat):Int)>0))]<|dw (fls [0,1,2,3,4,5,6,7] (Tr.an 8 Tr.nil)) h28 fun _ h49=> ?_
 obtain⟨s50,m51,p52,c53,E54,hM55,h56⟩:=tab_open h49
 have hRl_:=hM55.2
 obtain⟨b57,hp58⟩:=sl_ptr0 (j:=3) h56 rfl om
 refine go [rd 12 3 0 2 1 h56,.v 12 5 (oIr (vn-1)),rd 12 6 6 0 8 h56,.s 12 7]<|lw (.pointer (some ⟨b57,q*8,none⟩)) (fun _=>liP (Ot 56) (Ot 58) p52 b57 0 (vn-1) RL.length c53 underlying175 8 q hp58 (q*8)) ?_
 have h59:=h56.c.t8
 refine actG ?_
 have hl62:=fl_n eRs_ok dc h59
 refine an_storeSl (b:=b57) [(q*8,iV x),(q*8+1,iV y),(q*8+2,uV z),(q*8+3,iV st),(q*8+4,iV why),(q*8+5,iV tr),(q*8+6,iV nx),(q*8+7,.string (St L))] (cs':=(fl eRs (RL.set q ⟨(x,y,z),st,why,tr,nx,L⟩))) kr kr hp58 (allq ⟨⟨by omega,rfl⟩,⟨by omega,rfl⟩,⟨by omega,rfl⟩,⟨by omega,rfl⟩,⟨by omega,rfl⟩,⟨by omega,rfl⟩,⟨by omega,rfl⟩,⟨by omega,rfl⟩,trivial⟩) om (fl_upd eRs_ok (i:=q) (x:=r) (y:=⟨(x,y,z),st,why,tr,nx,L⟩) hr [(0,iV x),(1,iV y),(2,uV z),(3,iV st),(4,iV why),(5,iV tr),(6,iV nx),(7,.string (St L))] rfl rfl rfl) h59 ?_
 intro w60 h61
 refine⟨kd [],nxN ?_⟩
 refine g0 ?_
 have h64:sat g _ (Tab b n A E (RL.set q ⟨(x,y,z),st,why,tr,nx,L⟩)::_):=tab_close hM55.1 (by simp only[List.length_append,List.length_set,List.length_cons,List.length_nil];omega) (by simp only[List.length_append,List.length_set,List.length_cons,List.length_nil]) h61.c.c.c.t8
 exact enR _ [] h64.d.a.t2
end Go.Proofs.YtcgkoffnknpgjaaGreatDoor
