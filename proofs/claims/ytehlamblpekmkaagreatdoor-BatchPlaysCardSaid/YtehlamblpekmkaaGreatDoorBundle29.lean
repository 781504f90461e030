/- Walks, printed by my generator P:../tab/gen20.py. -/
import Derived.Test.YtehlamblpekmkaaGreatDoorBundle27
import Derived.Test.YtehlamblpekmkaaGreatDoorHq
import Derived.Test.YtehlamblpekmkaaGreatDoorWfm
import Derived.Test.YtehlamblpekmkaaGreatDoorLst
import Derived.Test.YtehlamblpekmkaaGreatDoorLaws
namespace Go.Proofs.YtehlamblpekmkaaGreatDoor
open Tryz
set_option maxHeartbeats 4000000
def TW(b n:Nat)(S:Ts):Assn:=Wi (Wf n S) (Tab b n S.A S.E S.R)
theorem opn_bad{S:Ts}{o:Ky}{L:List UInt8}{h:Int×Int}{e:Int}(h0:topE S o L h=e)(he:e≠0):opnS S o L h=S∧opnD S o L h=(0,0,0):=by
 unfold opnS opnD
 rw[if_neg om,if_neg om]
 exact⟨rfl,rfl⟩
theorem has_not{E:Tm}{h:Int×Int}(hh: ¬hasH E h): ∀e∈allE E,e.h≠h:=fun e h1 h2=>hh ⟨e,h1,h2⟩
theorem haso_not{R:List Rs}{o:Ky}(hh: ¬hasO R o): ∀r∈R,r.out≠o:=fun e h1 h2=>hh ⟨e,h1,h2⟩
theorem obj_not{hx hy:Int}(h: ¬objH (hx,hy)):hx<0∨255<hx∨hy≤0:=by
 unfold objH at h
 simp only at h
 omega
theorem free_len{A:List Sl2}{j:Nat}{g:Int}(h:freeS A=some (j,g)):1≤(inS 0 A 0).length:=by
 have:=(List.getElem?_eq_some_iff.1 h).1
 omega
theorem topen_w(b n:Nat)(S:Ts)(x y z hx hy:Int)(L:List UInt8)(hz0:0≤z)(hz1:z≤4294967295)(hm:L.length≤1099511627776):HQ 69 [Value.pointer (some ⟨b,0,none⟩),Value.agg #[Value.int IntKind.i64 x,Value.int IntKind.i64 y,Value.int IntKind.u32 z],Value.string (St L),Value.agg #[Value.int IntKind.i64 hx,Value.int IntKind.u32 hy]] [TW b n S] (Value.tuple #[Value.agg #[Value.int IntKind.i64 ((opnD S (x,y,z) L (hx,hy)).1),Value.int IntKind.i64 ((opnD S (x,y,z) L (hx,hy)).2.1),Value.int IntKind.u32 ((opnD S (x,y,z) L (hx,hy)).2.2)],Value.int IntKind.i64 (topE S (x,y,z) L (hx,hy))]) [TW b n (opnS S (x,y,z) L (hx,hy))]:=by
 refine ht_wi (fun W=> ?_) (fun W=>wf_opn W hz1 _ _)
 have bad: ∀e:Int,topE S (x,y,z) L (hx,hy)=e→e≠0→HT prog 69 [Value.pointer (some ⟨b,0,none⟩),Value.agg #[Value.int IntKind.i64 x,Value.int IntKind.i64 y,Value.int IntKind.u32 z],Value.string (St L),Value.agg #[Value.int IntKind.i64 hx,Value.int IntKind.u32 hy]] [Tab b n S.A S.E S.R] (fun v K=>v=Value.tuple #[Value.agg #[Value.int .i64 0,Value.int .i64 0,Value.int .u32 0],Value.int .i64 e]∧K= [Tab b n S.A S.E S.R])→HT prog 69 [Value.pointer (some ⟨b,0,none⟩),Value.agg #[Value.int IntKind.i64 x,Value.int IntKind.i64 y,Value.int IntKind.u32 z],Value.string (St L),Value.agg #[Value.int IntKind.i64 hx,Value.int IntKind.u32 hy]] [Tab b n S.A S.E S.R] (fun v K=>v=Value.tuple #[Value.agg #[Value.int IntKind.i64 ((opnD S (x,y,z) L (hx,hy)).1),Value.int IntKind.i64 ((opnD S (x,y,z) L (hx,hy)).2.1),Value.int IntKind.u32 ((opnD S (x,y,z) L (hx,hy)).2.2)],Value.int IntKind.i64 (topE S (x,y,z) L (hx,hy))]∧K= [Tab b n (opnS S (x,y,z) L (hx,hy)).A (opnS S (x,y,z) L (hx,hy)).E (opnS S (x,y,z) L (hx,hy)).R]):=fun e h1 h2 h3=>by
  rw[(opn_bad h1 h2).1,(opn_bad h1 h2).2,h1]
  exact h3
 rcases newE_cases (x,y,z) L with ⟨h1,h2⟩|⟨h1,h2⟩
 · exact bad 2 (by unfold topE;rw[if_pos om,h2]) om (topen_out b n S.A S.E S.R x y z hx hy L hz0 hz1 hm h1)
 · rcases tagE_or L with h3|h3
   · rw[h3] at h2
     by_cases h4:objH (hx,hy)
     · have hob:0≤hx∧hx≤255∧1≤hy:=h4
       by_cases h5:hasO S.R (x,y,z)
       · exact bad 6 (by unfold topE;rw[if_neg om,if_neg (not_not_intro h4),if_pos (.inl h5)]) om (topen_out2 b n S.A S.E S.R x y z hx hy L hz0 hz1 hm h1 h3 hob h5)
       · by_cases h6:hasH S.E (hx,hy)
         · exact bad 6 (by unfold topE;rw[if_neg om,if_neg (not_not_intro h4),if_pos (.inr h6)]) om (topen_have b n S.A S.E S.R x y z hx hy L hz0 hz1 hm h1 h3 hob (haso_not h5) h6)
         · have h56: ¬(hasO S.R (x,y,z)∨hasH S.E (hx,hy)):=fun h=>h.elim h5 h6
           by_cases h7:S.R.length=2000∨(inS 0 S.A 0).length=0
           · exact bad 4 (by unfold topE;rw[if_neg om,if_neg (not_not_intro h4),if_neg h56,if_pos (h7.imp (fun h=>by omega) (fun h=>freeS_none.2 h))]) om (topen_full b n S.A S.E S.R x y z hx hy L hz0 hz1 hm h1 h3 hob (haso_not h5) (has_not h6) h7)
           · have hl:=W.rl
             cases h8:freeS S.A with
             |none=>exact absurd (.inr (freeS_none.1 h8)) h7
             |some p=>
              obtain⟨j,g⟩:=p
              have h0:topE S (x,y,z) L (hx,hy)=0:=by unfold topE;rw[if_neg om,if_neg (not_not_intro h4),if_neg h56,if_neg (fun h=>h.elim (fun h=>h7 (.inl om)) (fun h=>by rw[h8] at h;cases h))]
              have hS:opnS S (x,y,z) L (hx,hy)=⟨S.A.set j (1,g),gset S.E (j:Int) ⟨(x,(j:Int),g),(S.R.length:Int)+1,(hx,hy)⟩,S.R++ [⟨(x,y,z),1,0,0,0,L⟩]⟩:=by
               unfold opnS addS
               rw[if_pos h0]
               simp only[h8]
              have hD:opnD S (x,y,z) L (hx,hy)=(x,(j:Int),g):=by
               unfold opnD addD
               rw[if_pos h0]
               simp only[h8]
              rw[hS,hD,h0]
              exact topen_ok b n S.A S.E S.R x y z hx hy L hz0 hz1 hm h1 h3 hob (haso_not h5) (has_not h6) om j g h8 (free_len h8)
     · exact bad 2 (by unfold topE;rw[if_neg om,if_pos h4]) om (topen_arg b n S.A S.E S.R x y z hx hy L hz0 hz1 hm h1 h3 (obj_not h4))
   · rw[h3] at h2
     exact bad 16 (by unfold topE;rw[if_pos om,h2]) om (topen_tag b n S.A S.E S.R x y z hx hy L hz0 hz1 hm h1 om)
theorem cls_bad{S:Ts}{d:Ky}{e:Int}(h0:fndE S d=e)(he:e≠0):clsS S d=S∧clsL S d=false:=by
 unfold clsS clsL
 rw[if_neg om,decide_eq_false (fun h=>by omega)]
 exact⟨rfl,rfl⟩
theorem tget_w(b n:Nat)(S:Ts)(vn:Int):HQ 45 [Value.pointer (some ⟨b,0,none⟩),Value.int IntKind.i64 vn] [TW b n S] (Value.tuple #[Value.agg #[Value.int IntKind.i64 ((getR S vn).out.1),Value.int IntKind.i64 ((getR S vn).out.2.1),Value.int IntKind.u32 ((getR S vn).out.2.2),Value.int IntKind.i64 ((getR S vn).st),Value.int IntKind.i64 ((getR S vn).why),Value.int IntKind.i64 ((getR S vn).tr),Value.int IntKind.i64 ((getR S vn).nx),Value.string (St ((getR S vn).tag))],Value.int IntKind.i64 (nE S vn)]) [TW b n S]:=by
 refine ht_wi (fun W=> ?_) (fun W=>W)
 unfold nE
 by_cases h:1≤vn∧vn≤(S.R.length:Int)
 · rw[if_pos h]
   exact tget_ok b n S.A S.E S.R vn (vn-1).toNat (getR S vn) (getR_at h) om
 · rw[if_neg h,getR_no h]
   exact tget_no b n S.A S.E S.R vn om
theorem tlen_w(b n:Nat)(S:Ts):HQ 64 [Value.pointer (some ⟨b,0,none⟩)] [TW b n S] (Value.int IntKind.i64 (S.R.length:Int)) [TW b n S]:=by
 exact ht_wi (fun W=>tlen_ht b n S.A S.E S.R) (fun W=>W)
theorem tdescs_w(b n:Nat)(S:Ts)(vn:Int):HT prog 123 [Value.pointer (some ⟨b,0,none⟩),Value.int IntKind.i64 vn] [TW b n S] (fun v K=> ∃(p:Option Addr) (c:Nat),v=Value.tuple #[Value.slice p ((descs S.E vn).length) c,Value.int IntKind.i64 (nE S vn)]∧K= [TW b n S,Sl 144 3 p ((descs S.E vn).length) c (fl eO (descs S.E vn))]):=by
 refine HT.wi fun W=> ?_
 unfold nE
 by_cases h:1≤vn∧vn≤(S.R.length:Int)
 · rw[if_pos h]
   exact(tdescs_ok b n S.A S.E S.R vn h).post fun v K hP=>by
    obtain⟨p,c,h1,h2⟩:=hP
    exact⟨_,⟨p,c,h1,rfl⟩,fun g w F hs=>by rw[h2] at hs;exact wi_in W hs⟩
 · rw[if_neg h,descs_nil W h]
   exact(tdescs_no b n S.A S.E S.R vn om).post fun v K hP=>⟨_,⟨none,0,hP.1,rfl⟩,fun g w F hs=>by
    rw[hP.2] at hs
    exact wi_in W (sat_sw (sl_nil 144 3 hs))⟩
theorem tdrop_w(b n:Nat)(S:Ts)(x y z:Int)(hz0:0≤z)(hz1:z≤4294967295)(e:Ety)(he:gget S.E y=some e)(hd:e.d=(x,y,z)):HQ 124 [Value.pointer (some ⟨b,0,none⟩),Value.agg #[Value.int IntKind.i64 x,Value.int IntKind.i64 y,Value.int IntKind.u32 z]] [TW b n S] (Value.tuple #[]) [TW b n (dropS S (x,y,z))]:=by
 refine ht_wi (fun W=> ?_) (fun W=>wf_drop W he hd)
 obtain⟨q,h3,_,h4⟩:=wf_slot W he
 have hq:y.toNat=q:=by omega
 rw[hd] at h4
 unfold dropS
 simp only[hq]
 exact tdrop_ht b n S.A S.E S.R x y z hz0 hz1 q (1,z) h4 ⟨h3,rfl,rfl⟩
theorem tnew_w(n:Nat)(gn:Int)(hn:1≤n∧n≤256)(hg:1≤gn∧gn≤4294967295):HT prog 41 [Value.int IntKind.i64 (n:Int),Value.int IntKind.u32 gn] [] (fun v K=> ∃b:Nat,v=Value.tuple #[Value.pointer (some ⟨b,0,none⟩),Value.int .i64 0]∧K= [TW b n ⟨List.replicate n (0,gn),[],[]⟩]):=
 (tnew_ok n gn hn hg).post fun v K hP=>by
  obtain⟨b,h1,h2⟩:=hP
  exact⟨_,⟨b,h1,rfl⟩,fun g w F hs=>by rw[h2] at hs;exact wi_in (wf_new hn hg) hs⟩
section
def eE(e:Ety):List Value:= [.int .i64 e.d.1,.int .i64 e.d.2.1,.int .u32 e.d.2.2,.int .i64 e.num,.int .i64 e.h.1,.int .u32 e.h.2]
theorem eE_ok:Enc 6 eE:=⟨fun _=>rfl,fun x v hv=>by simp[eE] at hv;rcases hv with rfl |rfl |rfl |rfl |rfl |rfl<;>rfl⟩
def Zr(b n:Nat)(A:List Sl2)(X:List Ety)(R:List Rs):Assn:=fun h=> ∃x:Nat×Option Addr×Nat×Option Addr×Nat,(X.length≤256∧R.length≤2000)∧
 star [Cl b [.pointer (some ⟨x.1,0,none⟩),.slice x.2.1 X.length x.2.2.1,.slice x.2.2.2.1 R.length x.2.2.2.2] 214,Zs x.1 n A,Sl 305 6 x.2.1 X.length x.2.2.1 (fl eE X),Sl 149 8 x.2.2.2.1 R.length x.2.2.2.2 (fl eRs R)] h
section
variable {g w : World} {L : List Assn} {b n : Nat} {A : List Sl2} {X : List Ety} {R : List Rs}
theorem zr_open(h:sat g w (Zr b n A X R::L)): ∃s p c q d,(X.length≤256∧R.length≤2000)∧sat g w (Cl b [.pointer (some ⟨s,0,none⟩),.slice p X.length c,.slice q R.length d] 214::Zs s n A::Sl 305 6 p X.length c (fl eE X)::Sl 149 8 q R.length d (fl eRs R)::L):=by
 obtain⟨⟨s,p,c,q,d⟩,h1,h2⟩:=sat_open (X:=Nat×Option Addr×Nat×Option Addr×Nat) (p:=fun _=>X.length≤256∧R.length≤2000) (B:=fun x=>star [Cl b [.pointer (some ⟨x.1,0,none⟩),.slice x.2.1 X.length x.2.2.1,.slice x.2.2.2.1 R.length x.2.2.2.2] 214,Zs x.1 n A,Sl 305 6 x.2.1 X.length x.2.2.1 (fl eE X),Sl 149 8 x.2.2.2.1 R.length x.2.2.2.2 (fl eRs R)]) h (fun k hk=>hk)
 exact⟨s,p,c,q,d,h1,sat_unstar h2⟩
theorem zr_close{s c d k m:Nat}{p q:Option Addr}(hb:X.length≤256∧R.length≤2000)(hk:k=X.length)(hm:m=R.length)(h:sat g w (Cl b [.pointer (some ⟨s,0,none⟩),.slice p k c,.slice q m d] 214::Zs s n A::Sl 305 6 p k c (fl eE X)::Sl 149 8 q m d (fl eRs R)::L)):sat g w (Zr b n A X R::L):=by
 subst hk hm
 exact sat_imp (sat_star (K:= [Cl b [.pointer (some ⟨s,0,none⟩),.slice p X.length c,.slice q R.length d] 214,Zs s n A,Sl 305 6 p X.length c (fl eE X),Sl 149 8 q R.length d (fl eRs R)]) h) fun k hk=>⟨(s,p,c,q,d),hb,hk⟩
end
theorem any_step{α:Type}{l:List α}{f:α→Bool}{k:Nat}{x:α}(hb:(l.take k).any f=false)(hx:l[k]? =some x)(hn:f x=false):(l.take (k+1)).any f=false:=by
 rw[List.take_add_one,hx,List.any_append,hb]
 simp[hn]
theorem any_hit{α:Type}{l:List α}{f:α→Bool}{k:Nat}{x:α}(hx:l[k]? =some x)(hf:f x=true):l.any f=true:=List.any_eq_true.2 ⟨x,List.mem_of_getElem? hx,hf⟩
theorem any_end{α:Type}{l:List α}{f:α→Bool}{k:Nat}(hb:(l.take k).any f=false)(hk:l.length≤k):l.any f=false:=by
 rw[List.take_of_length_le hk] at hb
 exact hb
theorem zky_eq{d:Ky}{a b c:Int}(h:d.1=a∧d.2.1=b∧d.2.2=c):d=(a,b,c):=by
 obtain⟨x,y,z⟩:=d
 obtain⟨h1,h2,h3⟩:=h
 simp only at h1 h2 h3
 subst h1 h2 h3
 rfl
theorem ky_of{d:Ky}{a b c:Int}(h:d=(a,b,c)):d.1=a∧d.2.1=b∧d.2.2=c:=by
 subst h
 exact⟨rfl,rfl,rfl⟩
theorem hd_eq{d:Int×Int}{a b:Int}(h:d.1=a∧d.2=b):d=(a,b):=by
 obtain⟨x,y⟩:=d
 obtain⟨h1,h2⟩:=h
 simp only at h1 h2
 subst h1 h2
 rfl
def hasX(X:List Ety)(h:Int×Int):Bool:=X.any fun e=>decide (e.h=h)
def hasP(R:List Rs)(o:Ky):Bool:=R.any fun r=>decide (r.out=o)
theorem qz5e144_eql_t{n:Nat}{l:Fr}{o:Oper}{x y:Operand}(a0 a1 a2 c0 c1 c2:Int)(ho:o.op= .binOp .eql 144 x y 144)(hx:fe n l x= .agg #[.int .i64 a0,.int .i64 a1,.int .u32 a2])(hy:fe n l y= .agg #[.int .i64 c0,.int .i64 c1,.int .u32 c2])(h:a0=c0∧a1=c1∧a2=c2)(w:World):(execOp (fe n l) o).run prog w= .ok (.value (.bool true)) w:=by
 obtain⟨rfl,rfl,rfl⟩:=h
 simp[execOp,ho,hx,hy,go_sem]
theorem qz5e144_eql_f{n:Nat}{l:Fr}{o:Oper}{x y:Operand}(a0 a1 a2 c0 c1 c2:Int)(ho:o.op= .binOp .eql 144 x y 144)(hx:fe n l x= .agg #[.int .i64 a0,.int .i64 a1,.int .u32 a2])(hy:fe n l y= .agg #[.int .i64 c0,.int .i64 c1,.int .u32 c2])(h: ¬(a0=c0∧a1=c1∧a2=c2))(w:World):(execOp (fe n l) o).run prog w= .ok (.value (.bool false)) w:=by
 by_cases h0:a0=c0
 · skip
   by_cases h1:a1=c1
   · skip
     by_cases h2:a2=c2
     · exact absurd ⟨h0,h1,h2⟩ h
     · simp[execOp,ho,hx,hy,go_sem,h0,h1,h2]
   · simp[execOp,ho,hx,hy,go_sem,h0,h1]
 · simp[execOp,ho,hx,hy,go_sem,h0]
theorem qz5e148_eql_t{n:Nat}{l:Fr}{o:Oper}{x y:Operand}(a0 a1 c0 c1:Int)(ho:o.op= .binOp .eql 148 x y 148)(hx:fe n l x= .agg #[.int .i64 a0,.int .u32 a1])(hy:fe n l y= .agg #[.int .i64 c0,.int .u32 c1])(h:a0=c0∧a1=c1)(w:World):(execOp (fe n l) o).run prog w= .ok (.value (.bool true)) w:=by
 obtain⟨rfl,rfl⟩:=h
 simp[execOp,ho,hx,hy,go_sem]
theorem qz5e148_eql_f{n:Nat}{l:Fr}{o:Oper}{x y:Operand}(a0 a1 c0 c1:Int)(ho:o.op= .binOp .eql 148 x y 148)(hx:fe n l x= .agg #[.int .i64 a0,.int .u32 a1])(hy:fe n l y= .agg #[.int .i64 c0,.int .u32 c1])(h: ¬(a0=c0∧a1=c1))(w:World):(execOp (fe n l) o).run prog w= .ok (.value (.bool false)) w:=by
 by_cases h0:a0=c0
 · skip
   by_cases h1:a1=c1
   · exact absurd ⟨h0,h1⟩ h
   · simp[execOp,ho,hx,hy,go_sem,h0,h1]
 · simp[execOp,ho,hx,hy,go_sem,h0]
theorem rvalid_cl(b s:Nat)(p:Option Addr)(k c:Nat)(q:Option Addr)(m d:Nat):HQ 148 [pV b] [Cl b [pV s,.slice p k c,.slice q m d] 214] (.bool true) [Cl b [pV s,.slice p k c,.slice q m d] 214]:=by
 refine hiS func148 ntmps148 fun g w0 R h0=>go [rd 1 6 0 0 1 h0] ?_
 exact enR _ [] h0
theorem zobj_t(u0 u1:Int)(h:0≤u0∧u0≤255∧1≤u1):HQ 150 [.agg #[iV u0,uV u1]] [] (.bool true) []:=by
 refine hiS func150 ntmps150 fun g w0 R h0=>g0<|nP 148 [iV u0,uV u1] h0 (fun _ _ h12=> ?_)
 refine go [rd 1 1 0 0 1 h12,.v 1 2 (oT (u0≥0)),rd 1 5 0 0 1 h12,.v 1 6 (oT (u0<256)),rd 1 10 0 1 1 h12,.v 1 11 (qnT u1 0)] ?_
 exact enR _ [] h12.a.t1
theorem zobj_f(u0 u1:Int)(hz:0≤u1)(h: ¬(0≤u0∧u0≤255∧1≤u1)):HQ 150 [.agg #[iV u0,uV u1]] [] (.bool false) []:=by
 refine hiS func150 ntmps150 fun g w0 R h0=>g0<|nP 148 [iV u0,uV u1] h0 (fun _ _ h12=> ?_)
 refine go [rd 1 1 0 0 1 h12,.s 1 2] ?_
 by_cases c13:u0≥0
 ·
  refine go [.v 1 2 (oT _ c13),rd 1 5 0 0 1 h12,.s 1 6] ?_
  by_cases c14:u0<256
  ·
   refine go [.v 1 6 (oT _ c14),rd 1 10 0 1 1 h12,.v 1 11 (qnF u1 0)] ?_
   exact enR _ [] h12.a.t1
  refine go [.v 1 6 (oF _ c14)] ?_
  exact enR _ [] h12.a.t1
 refine go [.v 1 2 (oF _ c13)] ?_
 exact enR _ [] h12.a.t1
theorem zhas_ht(b n:Nat)(A:List Sl2)(X:List Ety)(Q:List Rs)(u0 u1:Int):HQ 151 [pV b,.agg #[iV u0,uV u1]] [Zr b n A X Q] (.bool (hasX X (u0,u1))) [Zr b n A X Q]:=by
 refine hiS func151 ntmps151 fun g w0 R h0=>g0<|nP 148 [iV u0,uV u1] h0 (fun r10 _ h12=> ?_)
 refine g0 ?_
 obtain⟨s14,p15,c16,p17,c18,hq19,h20⟩:=zr_open h12.a.t3
 have hb21:=hq19.1
 have hb22:=hq19.2
 refine lpS (fun mz_ a w=> ∃k:Nat,∃lr:Fr,mz_=X.length-k∧(k≤X.length)∧((X.take k).any (fun e=>decide (e.h=(u0,u1)))=false)∧a=mk 25 (([(0,pV b),(3,pV r10),(5,iV (k:Int))]:Fr)++lr)∧sat g w [Cl b [pV s14,.slice p15 X.length c16,.slice p17 Q.length c18] 214,Zs s14 n A,Sl 305 6 p15 X.length c16 (fl eE X),Sl 149 8 p17 Q.length c18 (fl eRs Q),Cl r10 [iV u0,uV u1] 148,R]) (X.length-0) ⟨0,_,rfl,om,rfl,(lvF [.k 0 (pV b),.k 3 (pV r10),.o 5 (oJ .i64 0 (0:Int))]),h20⟩ ?_
 rintro m24 a25 w26 ⟨k,lr23,rfl,hk_,hb_,rfl,h27⟩
 refine ga<|go [rd 2 4 0 1 1 h27,.s 2 6] ?_
 by_cases c28:(k:Int)<(X.length:Int)
 ·
  refine go [.v 2 6 (oT _ c28)]<|dw (fls [0,1,2,3,4,5,6,7,8,9] Tr.nil) h27 fun w29 h30=> ?_
  obtain⟨b31,hp32⟩:=sl_ptr0 (j:=2) h30 rfl om
  refine go [rd 4 3 0 1 1 h30,.s 4 5]<|lw (.pointer (some ⟨b31,k*6,none⟩)) (fun _=>liP (Ot 18) (Ot 19) p15 b31 0 (k:Int) X.length c16 underlying211 6 k hp32 (k*6)) ?_
  obtain⟨x33,hx34⟩:=gX X k om
  refine go [.r 4 7 b31 (k*6+4) [iV x33.h.1,uV x33.h.2] ⟨gvc 2 h30 rfl hp32 eE_ok 4 (iV x33.h.1) hx34 (k*6+4),gvc 2 h30 rfl hp32 eE_ok 5 (uV x33.h.2) hx34 (k*6+5),trivial⟩,rd 4 8 4 0 2 h30,.s 4 9] ?_
  by_cases c35:x33.h.1=u0
  ·
   by_cases c36:x33.h.2=u1
   ·
    refine lw (.bool true) (fun _=>qz5e148_eql_t (x:=Ot 22) (y:=Ot 23) x33.h.1 x33.h.2 u0 u1 kr kr kr ⟨om,om⟩ _)<|g0<|up<|g0 ?_
    have h37:sat g _ (Zr b n A X Q::_):=zr_close lO lE lE h30
    exact en (.bool true) [] ⟨_,_,rfl,⟨by rw[show hasX X (u0,u1)=true from any_hit hx34 (decide_eq_true (hd_eq om))],rfl⟩,h37.B.t2⟩
   refine lw (.bool false) (fun _=>qz5e148_eql_f (x:=Ot 22) (y:=Ot 23) x33.h.1 x33.h.2 u0 u1 kr kr kr om _)<|go [.v 3 1 (oIr ((k:Int)+1))] ?_
   exact enN (X.length-(k+1)) ⟨(k+1),_,rfl,om,(any_step hb_ hx34 (decide_eq_false fun he_=>by have h1_:=congrArg Prod.fst he_;have h2_:=congrArg Prod.snd he_;simp only at h1_ h2_;omega)),(lvF [.k 0 (pV b),.k 3 (pV r10),.o 5 (oJ .i64 ((k:Int)+1) (((k+1):Nat):Int))]),h30⟩
  refine lw (.bool false) (fun _=>qz5e148_eql_f (x:=Ot 22) (y:=Ot 23) x33.h.1 x33.h.2 u0 u1 kr kr kr om _)<|go [.v 3 1 (oIr ((k:Int)+1))] ?_
  exact enN (X.length-(k+1)) ⟨(k+1),_,rfl,om,(any_step hb_ hx34 (decide_eq_false fun he_=>by have h1_:=congrArg Prod.fst he_;have h2_:=congrArg Prod.snd he_;simp only at h1_ h2_;omega)),(lvF [.k 0 (pV b),.k 3 (pV r10),.o 5 (oJ .i64 ((k:Int)+1) (((k+1):Nat):Int))]),h30⟩
 refine go [.v 2 6 (oF _ c28)]<|up<|g0 ?_
 have h39:sat g _ (Zr b n A X Q::_):=zr_close lO lE lE h27
 exact en (.bool false) [] ⟨_,_,rfl,⟨by rw[show hasX X (u0,u1)=false from any_end hb_ om],rfl⟩,h39.B.t2⟩
theorem zfind_bad(b n:Nat)(A:List Sl2)(X:List Ety)(Q:List Rs)(d0 d1 d2:Int)(hz:0≤d2)(h: ¬(1≤d0∧d0≤3∧0≤d1∧d1≤255∧1≤d2)):HQ 215 [pV b,.agg #[iV d0,iV d1,uV d2]] [Zr b n A X Q] (.tuple #[iV 0,iV 2]) [Zr b n A X Q]:=by
 refine hiS func215 ntmps215 fun g w0 R h0=>g0<|nP 144 [iV d0,iV d1,uV d2] h0 (fun r10 _ h12=> ?_)
 obtain⟨s14,p15,c16,p17,c18,hq19,h20⟩:=zr_open h12.a.t3
 have hb21:=hq19.1
 have hb22:=hq19.2
 refine g0<|cl1 call148 (rvalid_cl b s14 p15 X.length c16 p17 Q.length c18) h20 fun _ h24=>go [rd 3 0 4 0 3 h24]<|cl0 call263 (zdsc_no d0 d1 d2 om om) h24 fun w25 h26=>g0 ?_
 have h27:sat g _ (Zr b n A X Q::_):=zr_close lO lE lE h26
 exact enR _ [] h27.B.t2
theorem zfind_ht(b n:Nat)(A:List Sl2)(X:List Ety)(Q:List Rs)(d0 d1 d2:Int)(h:1≤d0∧d0≤3∧0≤d1∧d1≤255∧1≤d2):HT prog 215 [pV b,.agg #[iV d0,iV d1,uV d2]] [Zr b n A X Q] (fun v K=>(∃(i:Nat) (e:Ety),X[i]? =some e∧e.d=(d0,d1,d2)∧v= .tuple #[iV (i:Int),iV 0]∧K= [Zr b n A X Q])∨((X.any fun e=>decide (e.d=(d0,d1,d2)))=false∧v= .tuple #[iV 0,iV 7]∧K= [Zr b n A X Q])):=by
 refine hiS func215 ntmps215 fun g w0 R h0=>g0<|nP 144 [iV d0,iV d1,uV d2] h0 (fun r10 _ h12=> ?_)
 obtain⟨s14,p15,c16,p17,c18,hq19,h20⟩:=zr_open h12.a.t3
 have hb21:=hq19.1
 have hb22:=hq19.2
 refine g0<|cl1 call148 (rvalid_cl b s14 p15 X.length c16 p17 Q.length c18) h20 fun _ h24=>go [rd 3 0 4 0 3 h24]<|cl0 call263 (zdsc_ok d0 d1 d2 om om) h24 fun _ h26=>g0 ?_
 refine lpS (fun mz_ a w=> ∃k:Nat,∃lr:Fr,mz_=X.length-k∧(k≤X.length)∧((X.take k).any (fun e=>decide (e.d=(d0,d1,d2)))=false)∧a=mk 33 (([(0,pV b),(3,pV r10),(6,iV (k:Int))]:Fr)++lr)∧sat g w [Cl b [pV s14,.slice p15 X.length c16,.slice p17 Q.length c18] 214,Zs s14 n A,Sl 305 6 p15 X.length c16 (fl eE X),Sl 149 8 p17 Q.length c18 (fl eRs Q),Cl r10 [iV d0,iV d1,uV d2] 144,R]) (X.length-0) ⟨0,_,rfl,om,rfl,(lvF [.k 0 (pV b),.k 3 (pV r10),.o 6 (oJ .i64 0 (0:Int))]),h26⟩ ?_
 rintro m28 a29 w30 ⟨k,lr27,rfl,hk_,hb_,rfl,h31⟩
 refine ga<|go [rd 6 4 0 1 1 h31,.s 6 6] ?_
 by_cases c32:(k:Int)<(X.length:Int);rotate_left
 ·
  refine go [.v 6 6 (oF _ c32)]<|up<|g0 ?_
  have h44:sat g _ (Zr b n A X Q::_):=zr_close lO lE lE h31
  exact en (.tuple #[iV 0,iV 7]) [] ⟨_,_,rfl,.inr ⟨any_end hb_ om,rfl,rfl⟩,h44.B.t2⟩
 refine go [.v 6 6 (oT _ c32)]<|dw (fls [0,1,2,3,4,5,6,7,8,9] Tr.nil) h31 fun w33 h34=> ?_
 obtain⟨b35,hp36⟩:=sl_ptr0 (j:=2) h34 rfl om
 refine go [rd 8 3 0 1 1 h34,.s 8 5]<|lw (.pointer (some ⟨b35,k*6,none⟩)) (fun _=>liP (Ot 25) (Ot 26) p15 b35 0 (k:Int) X.length c16 underlying211 6 k hp36 (k*6)) ?_
 obtain⟨x37,hx38⟩:=gX X k om
 refine go [.r 8 7 b35 (k*6) [iV x37.d.1,iV x37.d.2.1,uV x37.d.2.2] ⟨gvc 2 h34 rfl hp36 eE_ok 0 (iV x37.d.1) hx38 (k*6),gvc 2 h34 rfl hp36 eE_ok 1 (iV x37.d.2.1) hx38 (k*6+1),gvc 2 h34 rfl hp36 eE_ok 2 (uV x37.d.2.2) hx38 (k*6+2),trivial⟩,rd 8 8 4 0 3 h34,.s 8 9] ?_
 by_cases c39:x37.d.1=d0
 ·
  by_cases c40:x37.d.2.1=d1
  ·
   by_cases c41:x37.d.2.2=d2
   ·
    refine lw (.bool true) (fun _=>qz5e144_eql_t (x:=Ot 29) (y:=Ot 30) x37.d.1 x37.d.2.1 x37.d.2.2 d0 d1 d2 kr kr kr ⟨om,om,om⟩ _)<|g0<|up<|g0 ?_
    have h42:sat g _ (Zr b n A X Q::_):=zr_close lO lE lE h34
    exact en (.tuple #[iV (k:Int),iV 0]) [] ⟨_,_,rfl,.inl ⟨k,x37,hx38,zky_eq om,rfl,rfl⟩,h42.B.t2⟩
   refine lw (.bool false) (fun _=>qz5e144_eql_f (x:=Ot 29) (y:=Ot 30) x37.d.1 x37.d.2.1 x37.d.2.2 d0 d1 d2 kr kr kr om _)<|go [.v 7 1 (oIr ((k:Int)+1))] ?_
   exact enN (X.length-(k+1)) ⟨(k+1),_,rfl,om,(any_step hb_ hx38 (decide_eq_false fun he_=>by have h_:=ky_of he_;omega)),(lvF [.k 0 (pV b),.k 3 (pV r10),.o 6 (oJ .i64 ((k:Int)+1) (((k+1):Nat):Int))]),h34⟩
  refine lw (.bool false) (fun _=>qz5e144_eql_f (x:=Ot 29) (y:=Ot 30) x37.d.1 x37.d.2.1 x37.d.2.2 d0 d1 d2 kr kr kr om _)<|go [.v 7 1 (oIr ((k:Int)+1))] ?_
  exact enN (X.length-(k+1)) ⟨(k+1),_,rfl,om,(any_step hb_ hx38 (decide_eq_false fun he_=>by have h_:=ky_of he_;omega)),(lvF [.k 0 (pV b),.k 3 (pV r10),.o 6 (oJ .i64 ((k:Int)+1) (((k+1):Nat):Int))]),h34⟩
 refine lw (.bool false) (fun _=>qz5e144_eql_f (x:=Ot 29) (y:=Ot 30) x37.d.1 x37.d.2.1 x37.d.2.2 d0 d1 d2 kr kr kr om _)<|go [.v 7 1 (oIr ((k:Int)+1))] ?_
 exact enN (X.length-(k+1)) ⟨(k+1),_,rfl,om,(any_step hb_ hx38 (decide_eq_false fun he_=>by have h_:=ky_of he_;omega)),(lvF [.k 0 (pV b),.k 3 (pV r10),.o 6 (oJ .i64 ((k:Int)+1) (((k+1):Nat):Int))]),h34⟩
end
section
theorem gv_from{α:Type}{f:α→List Value}{sz n c k:Nat}{M:List α}{p q:Option Addr}{X:Assn}(E:Enc sz f)(hg:Gv X p n (fl f M))(hM:M.length=n)(hk:k≤n)(hn:n≤c)(hq:q=if c=k then p else p.map (fun a:Addr=>a.add (k*sz))):Gv X q (n-k) (fl f (M.drop k)):=by
 intro h ha
 rcases Nat.lt_or_ge k n with h1|h1
 · rcases hg h ha with ⟨h2,_⟩|⟨b,off,h2,h3⟩
   · omega
   · rw[if_neg om,h2] at hq
     refine .inr ⟨b,off+k*sz,by rw[hq];simp[add_off],fun w hw j v hj=> ?_⟩
     rw[←fl_drop E,List.getElem?_drop] at hj
     rw[Nat.add_assoc]
     exact h3 w hw _ v hj
 · refine .inl ⟨by omega,?_⟩
   rw[List.drop_eq_nil_of_le om]
   rfl
section
variable {P : Program} {n : Nat} {l : Fr} {o : Oper}
theorem law_sliceFrom{t e m c sz:Nat}{x y:Operand}{p q:Option Addr}(ho:o.op= .slice t x (some y) none none)(ht:P.underlying t=some (.slice e))(hi:(P.info? e).map (·.size)=some sz)(hx:fe n l x= .slice p m c){z:Int}(hy:fe n l y= .int .i64 z)(k:Nat)(hz:z=(k:Int))(hk:k≤m)(hq:q=if c=k then p else p.map (fun a:Addr=>a.add (k*sz)))(w:World):
  (execOp (fe n l) o).run P w= .ok (.value (.slice q (m-k) (c-k))) w:=by
 subst hz
 subst hq
 cases hi':P.info? e with
 |none=>simp[hi'] at hi
 |some inf=>
  have hs':inf.size=sz:=by simpa [hi'] using hi
  have a1: ¬m<k:=by omega
  by_cases hc:c=k
  · simp[execOp,ho,hx,hy,Instr.sliceAt,Instr.slice,run_underlying ht,Instr.sliceBounds,Instr.sliceBound,asIntOf,sizeOf,typeInfo,hi',hk,a1,hc]
  · simp[execOp,ho,hx,hy,Instr.sliceAt,Instr.slice,run_underlying ht,Instr.sliceBounds,Instr.sliceBound,asIntOf,sizeOf,typeInfo,hi',hs',hk,a1,hc]
end
end
def insX(X:List Ety)(j:Nat)(e:Ety):List Ety:=match X with
 | []=> [e]
 |x::X=>if x.d.2.1<(j:Int) then x::insX X j e else e::x::X
theorem ins_len(X:List Ety)(j:Nat)(e:Ety):(insX X j e).length=X.length+1:=by
 induction X with
 |nil=>rfl
 |cons x X ih=>
  unfold insX
  split
  · rw[List.length_cons,ih,List.length_cons]
  · rfl
theorem ins_at{X:List Ety}{j k:Nat}{e:Ety}(hb: ∀(m:Nat) (x:Ety),m<k→X[m]? =some x→x.d.2.1<(j:Int))(hk:k≤X.length)(hn: ∀x:Ety,X[k]? =some x→ ¬x.d.2.1<(j:Int)):X.take k++ [e]++X.drop k=insX X j e:=by
 induction X generalizing k with
 |nil=>
  have hk0:k=0:=by simpa using hk
  subst hk0
  rfl
 |cons x X ih=>
  cases k with
  |zero=>
   unfold insX
   rw[if_neg (hn x rfl)]
   rfl
  |succ k=>
   unfold insX
   rw[if_pos (hb 0 x om rfl),←ih (k:=k) (fun m y hm hy=>hb (m+1) y om (by simpa using hy)) (by simpa using hk) (fun y hy=>hn y (by simpa using hy))]
   rfl
theorem lt_step{X:List Ety}{j:Int}{k:Nat}{x:Ety}(hb: ∀(m:Nat) (y:Ety),m<k→X[m]? =some y→y.d.2.1<j)(hx:X[k]? =some x)(h:x.d.2.1<j): ∀(m:Nat) (y:Ety),m<k+1→X[m]? =some y→y.d.2.1<j:=fun m y hm hy=>by
 rcases Nat.lt_succ_iff_lt_or_eq.1 hm with h1|h1
 · exact hb m y h1 hy
 · subst h1
   rw[hx] at hy
   obtain rfl:=Option.some.inj hy
   exact h
theorem zadd_ht(b n:Nat)(A:List Sl2)(X:List Ety)(Q:List Rs)(vn u0 u1:Int)(q:Nat)(r:Rs)(hr:Q[q]? =some r)(hv:vn=(q:Int)+1)(j:Nat)(vg:Int)(hf:freeS A=some (j,vg))(hx:X.length<256):HQ 153 [pV b,iV vn,.agg #[iV u0,uV u1]] [Zr b n A X Q] (.agg #[iV r.out.1,iV (j:Int),uV vg]) [Zr b n (A.set j (1,vg)) (insX X j ⟨(r.out.1,(j:Int),vg),vn,(u0,u1)⟩) Q]:=by
 have hql_:=(List.getElem?_eq_some_iff.1 hr).1
 refine hiS func153 ntmps153 fun g w0 R h0=>g0<|nP 148 [iV u0,uV u1] h0 (fun r10 _ h12=> ?_)
 refine nP 144 [iV 0,iV 0,uV 0] h12 (fun r13 _ h15=> ?_)
 obtain⟨s17,p18,c19,p20,c21,hq22,h23⟩:=zr_open h15.b.t4
 have hb24:=hq22.1
 have hb25:=hq22.2
 have h26:=h23.b.t7
 obtain⟨hc27,hc28⟩:=sl_le h26
 have h29:=h26.b.b.t7
 have h30:=h29.a.t7
 refine go [rd 1 3 0 0 1 h29]<|cl1 call212 (ztake_ht s17 n A j vg hf) h30 fun _ h32=>g0<|nP 148 [iV 0,uV 0] h32 (fun r33 _ h35=> ?_)
 refine sA [iV (j:Int),uV vg] h35 fun _ h37=>g0<|dw (fls [0,1,2,3,4,5,6,7,8,9,10,11,12,13,14,15,16,17] (Tr.an 18 (Tr.an 19 Tr.nil))) h37 fun _ h39=> ?_
 obtain⟨b40,hp41⟩:=sl_ptr0 (j:=4) h39 rfl om
 refine go [rd 2 3 2 2 1 h39,.v 2 5 (oIr (vn-1)),.s 2 6]<|lw (.pointer (some ⟨b40,q*8,none⟩)) (fun _=>liP (Ot 22) (Ot 24) p20 b40 0 (vn-1) Q.length c21 underlying212 8 q hp41 (q*8))<|go [.r 2 9 b40 (q*8) [iV r.out.1] ⟨gvc 4 h39 rfl hp41 eRs_ok 0 (iV r.out.1) hr (q*8),trivial⟩,rd 2 11 0 0 1 h39,rd 2 13 0 1 1 h39,rd 2 16 6 0 2 h39]<|nG (fun q_=>pV q_) 305 [iV 0,iV 0,uV 0,iV 0,iV 0,uV 0] h39 (fun r42 _ h44=>⟨kd [rd 0 16 7 0 2 h44,rd 0 13 1 1 1 h44,rd 0 11 1 0 1 h44,.r 0 9 b40 (q*8) [iV r.out.1] ⟨gvc 5 h44 rfl hp41 eRs_ok 0 (iV r.out.1) hr (q*8),trivial⟩,rd 0 3 3 2 1 h44],?_⟩)
 refine sB [iV r.out.1,iV (j:Int),uV vg,iV vn,iV u0,uV u1] h44 fun _ h46=>⟨kd [],?_⟩
 refine go [.s 4 100000] ?_
 refine jnS (fun a w=> ∃kx:Nat,∃lr:Fr,(kx≤X.length)∧(∀(m:Nat) (x:Ety),m<kx→X[m]? =some x→x.d.2.1<(j:Int))∧(∀y:Ety,X[kx]? =some y→ ¬y.d.2.1<(j:Int))∧a=mk 83 (([(0,pV b),(6,pV r13),(9,pV r42),(10,iV (kx:Int))]:Fr)++lr)∧sat g w [Cl r42 [iV r.out.1,iV (j:Int),uV vg,iV vn,iV u0,uV u1] 305,Cl r33 [iV (j:Int),uV vg] 148,Zs s17 n (A.set j (1,vg)),Cl b [pV s17,.slice p18 X.length c19,.slice p20 Q.length c21] 214,Sl 305 6 p18 X.length c19 (fl eE X),Sl 149 8 p20 Q.length c21 (fl eRs Q),Cl r13 [iV 0,iV 0,uV 0] 144,Cl r10 [iV u0,uV u1] 148,R]) ?_ ?_
 ·
  refine g0 ?_
  refine lpS (fun mz_ a w=> ∃k:Nat,∃lr:Fr,mz_=X.length-k∧(k≤X.length)∧(∀(m:Nat) (x:Ety),m<k→X[m]? =some x→x.d.2.1<(j:Int))∧a=mk 83 (([(0,pV b),(6,pV r13),(7,pV r33),(9,pV r42),(10,iV (k:Int))]:Fr)++lr)∧sat g w [Cl r42 [iV r.out.1,iV (j:Int),uV vg,iV vn,iV u0,uV u1] 305,Cl r33 [iV (j:Int),uV vg] 148,Zs s17 n (A.set j (1,vg)),Cl b [pV s17,.slice p18 X.length c19,.slice p20 Q.length c21] 214,Sl 305 6 p18 X.length c19 (fl eE X),Sl 149 8 p20 Q.length c21 (fl eRs Q),Cl r13 [iV 0,iV 0,uV 0] 144,Cl r10 [iV u0,uV u1] 148,R]) (X.length-0) ⟨0,_,rfl,om,(fun m _ hm=>by omega),(lvF [.k 0 (pV b),.k 6 (pV r13),.k 7 (pV r33),.k 9 (pV r42),.o 10 (oJ .i64 0 (0:Int))]),h46⟩ ?_
  rintro m48 a49 w50 ⟨k,lr47,rfl,hk_,hb_,rfl,h51⟩
  refine ga<|g0<|dw (fls [0,1,2,3,4,5,6,7,8,9,10,11,12,13,14,15,16,17,18,19,20] Tr.nil) h51 fun _ h53=>go [rd 4 4 3 1 1 h53,.s 4 6] ?_
  by_cases c54:(k:Int)<(X.length:Int)
  ·
   obtain⟨b55,hp56⟩:=sl_ptr0 (j:=4) h53 rfl om
   refine go [.v 4 6 (oT _ c54),rd 4 11 3 1 1 h53,.s 4 13]<|lw (.pointer (some ⟨b55,k*6,none⟩)) (fun _=>liP (Ot 48) (Ot 49) p18 b55 0 (k:Int) X.length c19 underlying211 6 k hp56 (k*6)) ?_
   obtain⟨x57,hx58⟩:=gX X k om
   refine go [.r 4 16 b55 (k*6+1) [iV x57.d.2.1] ⟨gvc 4 h53 rfl hp56 eE_ok 1 (iV x57.d.2.1) hx58 (k*6+1),trivial⟩,rd 4 18 1 0 1 h53,.s 4 19] ?_
   by_cases c59:x57.d.2.1<(j:Int)
   ·
    refine go [.v 4 19 (oT _ c59),.v 5 1 (oIr ((k:Int)+1))] ?_
    exact enN (X.length-(k+1)) ⟨(k+1),_,rfl,om,(lt_step hb_ hx58 om),(lvF [.k 0 (pV b),.k 6 (pV r13),.k 7 (pV r33),.k 9 (pV r42),.o 10 (oJ .i64 ((k:Int)+1) (((k+1):Nat):Int))]),h53⟩
   refine go [.v 4 19 (oF _ c59)]<|up<|g0 ?_
   refine enL ?_
   exact⟨k,_,om,hb_,(fun y hy=>by rw[hx58] at hy;obtain rfl:=Option.some.inj hy;omega),(lvF [.k 0 (pV b),.k 6 (pV r13),.k 9 (pV r42),.k 10 (iV (k:Int))]),h53⟩
  refine go [.v 4 6 (oF _ c54)]<|up<|g0 ?_
  refine enL ?_
  exact⟨k,_,om,hb_,(fun y hy=>by rw[List.getElem?_eq_none om] at hy;cases hy),(lvF [.k 0 (pV b),.k 6 (pV r13),.k 9 (pV r42),.k 10 (iV (k:Int))]),h53⟩
 rintro a60 w61 ⟨kx,lr63,hkx_,hbx_,hnx_,rfl,h62⟩
 refine ga<|g0<|dw (fls [0,2,3,4,5,6,7,9,12,13,14,15,16,17] (Tr.an2 1 (Tr.an2 8 (Tr.an 10 (Tr.an 11 (Tr.an 18 (fls [19,20] (Tr.an 21 Tr.nil))))) 10 (Tr.an 8 (Tr.an 11 (Tr.an 18 (fls [19,20] (Tr.an 21 Tr.nil)))))) 10 (Tr.an 1 (Tr.an 8 (Tr.an 11 (Tr.an 18 (fls [19,20] (Tr.an 21 Tr.nil)))))))) h62 fun _ h65=>go [rd 6 5 3 1 1 h65,.s 6 7]<|lw (.slice p18 kx c19) (fun _=>law_sliceTo (x:=Ot 65) (y:=Ot 66) (p:=p18) (m:=X.length) (c:=c19) (z:=(kx:Int)) kr underlying211 kr kr kr kx om om _) ?_
 obtain⟨q66,hq67⟩: ∃q:Option Addr,q=if c19=kx then p18 else p18.map (fun a:Addr=>a.add (kx*6)):=⟨_,rfl⟩
 refine go [rd 6 9 0 0 6 h65,rd 6 15 3 1 1 h65,.s 6 17]<|lw (.slice q66 (X.length-kx) (c19-kx)) (fun _=>law_sliceFrom (x:=Ot 75) (y:=Ot 76) (p:=p18) (m:=X.length) (c:=c19) (sz:=6) (z:=(kx:Int)) kr underlying211 kr kr kr kx om om hq67 _) ?_
 refine br2 ?_ ?_;rotate_left
 ·
  refine nG (fun q_=> .slice (some ⟨q_,0,none⟩) 1 1) 305 [iV r.out.1,iV (j:Int),uV vg,iV vn,iV u0,uV u1] h65 (fun r145 _ h147=>⟨kd [rd 0 15 4 1 1 h147,rd 0 5 4 1 1 h147],?_⟩)
  refine nG (fun q_=> .slice (some ⟨q_,0,none⟩) 0 0) 305 [] h147 (fun r148 w149 h150=>⟨kd [rd 0 15 5 1 1 h150,rd 0 5 5 1 1 h150],?_⟩)
  have h151:sat g _ (Sl 305 6 (some ⟨r148,0,none⟩) 0 0 (fl eE [])::_):=sl_of_cl h150 rfl om
  refine actG ?_
  refine aG 68 6 (Ot 61) (Ot 67) (.agg #[iV 0,iV 0,uV 0,iV 0,iV 0,uV 0]) (some ⟨r148,0,none⟩) p18 0 0 kx c19 48 underlying211 h151 6 rfl (fl eE (X.take kx)) (gv_list eE_ok (gv_sl _ _ _) om) (by rw[fl_len eE_ok,show (X.take kx).length=kx from (by rw[List.length_take];omega)]) (fl_one eE_ok _) kx ?_
  intro p152 cap153 w154 h155
  have h156:sat g _ (Sl 305 6 p152 kx cap153 (fl eE (X.take kx))::_):=sI h155
  obtain⟨hn157,hn158⟩:=sl_le h156
  refine⟨kd [rd 0 15 5 1 1 h156],nxG ?_⟩
  refine actG ?_
  refine aA 71 6 (Ot 68) (Ot 70) (.agg #[iV 0,iV 0,uV 0,iV 0,iV 0,uV 0]) p152 kx cap153 1 1 (⟨r145,0,none⟩) 48 underlying211 h156 (fl eE [(⟨(r.out.1,(j:Int),vg),vn,(u0,u1)⟩:Ety)]) rfl (cell1 h156 rfl) (fl_one eE_ok _) (kx+1) ?_
  intro p159 cap160 w161 h162
  have h163:sat g _ (Sl 305 6 p159 (kx+1) cap160 (fl eE ((X.take kx)++ [(⟨(r.out.1,(j:Int),vg),vn,(u0,u1)⟩:Ety)]))::_):=sJ h162
  obtain⟨hn164,hn165⟩:=sl_le h163
  refine⟨kd [rd 0 15 5 1 1 h163],nxG ?_⟩
  refine actG ?_
  refine aG 78 6 (Ot 71) (Ot 77) (.agg #[iV 0,iV 0,uV 0,iV 0,iV 0,uV 0]) p159 q66 (kx+1) cap160 (X.length-kx) (c19-kx) 48 underlying211 h163 6 rfl (fl eE (X.drop kx)) (gv_from eE_ok (gv_sl _ _ _) rfl om om hq67) (by rw[fl_len eE_ok,show (X.drop kx).length=X.length-kx from List.length_drop]) (fl_one eE_ok _) (X.length+1) ?_
  intro p166 cap167 w168 h169
  have h170:sat g _ (Sl 305 6 p166 (X.length+1) cap167 (fl eE (((X.take kx)++ [(⟨(r.out.1,(j:Int),vg),vn,(u0,u1)⟩:Ety)])++(X.drop kx)))::_):=sJ h169
  obtain⟨hn171,hn172⟩:=sl_le h170
  refine⟨kd [],nxG ?_⟩
  have h173:=h170.e.t11
  refine g0<|sG [(1,.slice p166 (X.length+1) cap167)] [pV s17,.slice p166 (X.length+1) cap167,.slice p20 Q.length c21] h173 fun _ h175=>⟨kd [],?_⟩
  have h176:=h175.h.t11
  refine go [rd 7 1 3 0 3 h175]<|sA [iV r.out.1,iV (j:Int),uV vg] h176 fun w177 h178=>g0 ?_
  have h180:sat g _ (Sl 305 6 p166 (X.length+1) cap167 (fl eE (insX X j ⟨(r.out.1,(j:Int),vg),vn,(u0,u1)⟩))::_):=sat_imp h178.b.t11 (fun _ hh_=>by rw[show ((((X.take kx)++ [(⟨(r.out.1,(j:Int),vg),vn,(u0,u1)⟩:Ety)])++(X.drop kx)):List Ety)=(insX X j ⟨(r.out.1,(j:Int),vg),vn,(u0,u1)⟩) from (ins_at hbx_ om hnx_)] at hh_;exact hh_)
  have h181:=h180.h.a.x.d.t11
  have h182:sat g _ (Zr b n (A.set j (1,vg)) (insX X j ⟨(r.out.1,(j:Int),vg),vn,(u0,u1)⟩) Q::_):=zr_close (by rw[ins_len];omega) ((ins_len _ _ _).symm▸om) lE h181
  exact enR (.agg #[iV r.out.1,iV (j:Int),uV vg]) [rd 0 0 0 0 3 h178] h182.x.a.t2
 refine nG (fun q_=> .slice (some ⟨q_,0,none⟩) 0 0) 305 [] h65 (fun r68 w69 h70=>⟨kd [rd 0 15 4 1 1 h70,rd 0 9 1 0 6 h70,rd 0 5 4 1 1 h70],?_⟩)
 refine br2 ?_ ?_
 ·
  have h71:sat g _ (Sl 305 6 (some ⟨r68,0,none⟩) 0 0 (fl eE [])::_):=sl_of_cl h70 rfl om
  refine actG ?_
  refine aG 68 6 (Ot 61) (Ot 67) (.agg #[iV 0,iV 0,uV 0,iV 0,iV 0,uV 0]) (some ⟨r68,0,none⟩) p18 0 0 kx c19 48 underlying211 h71 5 rfl (fl eE (X.take kx)) (gv_list eE_ok (gv_sl _ _ _) om) (by rw[fl_len eE_ok,show (X.take kx).length=kx from (by rw[List.length_take];omega)]) (fl_one eE_ok _) kx ?_
  intro p72 cap73 w74 h75
  have h76:sat g _ (Sl 305 6 p72 kx cap73 (fl eE (X.take kx))::_):=sI h75
  obtain⟨hn77,hn78⟩:=sl_le h76
  refine⟨kd [rd 0 15 4 1 1 h76,rd 0 9 1 0 6 h76],nxG ?_⟩
  refine nG (fun q_=> .slice (some ⟨q_,0,none⟩) 1 1) 305 [iV r.out.1,iV (j:Int),uV vg,iV vn,iV u0,uV u1] h76 (fun r79 _ h81=>⟨kd [rd 0 15 5 1 1 h81],?_⟩)
  have h82:=h81.a.t11
  refine actG ?_
  refine aA 71 6 (Ot 68) (Ot 70) (.agg #[iV 0,iV 0,uV 0,iV 0,iV 0,uV 0]) p72 kx cap73 1 1 (⟨r79,0,none⟩) 48 underlying211 h82 (fl eE [(⟨(r.out.1,(j:Int),vg),vn,(u0,u1)⟩:Ety)]) rfl (cell1 h82 rfl) (fl_one eE_ok _) (kx+1) ?_
  intro p83 cap84 w85 h86
  have h87:sat g _ (Sl 305 6 p83 (kx+1) cap84 (fl eE ((X.take kx)++ [(⟨(r.out.1,(j:Int),vg),vn,(u0,u1)⟩:Ety)]))::_):=sJ h86
  obtain⟨hn88,hn89⟩:=sl_le h87
  refine⟨kd [rd 0 15 5 1 1 h87],nxG ?_⟩
  refine actG ?_
  refine aG 78 6 (Ot 71) (Ot 77) (.agg #[iV 0,iV 0,uV 0,iV 0,iV 0,uV 0]) p83 q66 (kx+1) cap84 (X.length-kx) (c19-kx) 48 underlying211 h87 6 rfl (fl eE (X.drop kx)) (gv_from eE_ok (gv_sl _ _ _) rfl om om hq67) (by rw[fl_len eE_ok,show (X.drop kx).length=X.length-kx from List.length_drop]) (fl_one eE_ok _) (X.length+1) ?_
  intro p90 cap91 w92 h93
  have h94:sat g _ (Sl 305 6 p90 (X.length+1) cap91 (fl eE (((X.take kx)++ [(⟨(r.out.1,(j:Int),vg),vn,(u0,u1)⟩:Ety)])++(X.drop kx)))::_):=sJ h93
  obtain⟨hn95,hn96⟩:=sl_le h94
  refine⟨kd [],nxG ?_⟩
  have h97:=h94.e.t11
  refine g0<|sG [(1,.slice p90 (X.length+1) cap91)] [pV s17,.slice p90 (X.length+1) cap91,.slice p20 Q.length c21] h97 fun _ h99=>⟨kd [],?_⟩
  have h100:=h99.h.t11
  refine go [rd 7 1 3 0 3 h99]<|sA [iV r.out.1,iV (j:Int),uV vg] h100 fun w101 h102=>g0 ?_
  have h104:sat g _ (Sl 305 6 p90 (X.length+1) cap91 (fl eE (insX X j ⟨(r.out.1,(j:Int),vg),vn,(u0,u1)⟩))::_):=sat_imp h102.b.t11 (fun _ hh_=>by rw[show ((((X.take kx)++ [(⟨(r.out.1,(j:Int),vg),vn,(u0,u1)⟩:Ety)])++(X.drop kx)):List Ety)=(insX X j ⟨(r.out.1,(j:Int),vg),vn,(u0,u1)⟩) from (ins_at hbx_ om hnx_)] at hh_;exact hh_)
  have h105:=h104.h.a.x.d.t11
  have h106:sat g _ (Zr b n (A.set j (1,vg)) (insX X j ⟨(r.out.1,(j:Int),vg),vn,(u0,u1)⟩) Q::_):=zr_close (by rw[ins_len];omega) ((ins_len _ _ _).symm▸om) lE h105
  exact enR (.agg #[iV r.out.1,iV (j:Int),uV vg]) [rd 0 0 0 0 3 h102] h106.x.a.t2
 refine nG (fun q_=> .slice (some ⟨q_,0,none⟩) 1 1) 305 [iV r.out.1,iV (j:Int),uV vg,iV vn,iV u0,uV u1] h70 (fun r108 w109 h110=>⟨kd [rd 0 15 5 1 1 h110,rd 0 5 5 1 1 h110],?_⟩)
 have h112:sat g _ (Sl 305 6 (some ⟨r68,0,none⟩) 0 0 (fl eE [])::_):=sl_of_cl h110.a.t11 rfl om
 refine actG ?_
 refine aG 68 6 (Ot 61) (Ot 67) (.agg #[iV 0,iV 0,uV 0,iV 0,iV 0,uV 0]) (some ⟨r68,0,none⟩) p18 0 0 kx c19 48 underlying211 h112 6 rfl (fl eE (X.take kx)) (gv_list eE_ok (gv_sl _ _ _) om) (by rw[fl_len eE_ok,show (X.take kx).length=kx from (by rw[List.length_take];omega)]) (fl_one eE_ok _) kx ?_
 intro p113 cap114 w115 h116
 have h117:sat g _ (Sl 305 6 p113 kx cap114 (fl eE (X.take kx))::_):=sI h116
 obtain⟨hn118,hn119⟩:=sl_le h117
 refine⟨kd [rd 0 15 5 1 1 h117],nxG ?_⟩
 refine actG ?_
 refine aA 71 6 (Ot 68) (Ot 70) (.agg #[iV 0,iV 0,uV 0,iV 0,iV 0,uV 0]) p113 kx cap114 1 1 (⟨r108,0,none⟩) 48 underlying211 h117 (fl eE [(⟨(r.out.1,(j:Int),vg),vn,(u0,u1)⟩:Ety)]) rfl (cell1 h117 rfl) (fl_one eE_ok _) (kx+1) ?_
 intro p120 cap121 w122 h123
 have h124:sat g _ (Sl 305 6 p120 (kx+1) cap121 (fl eE ((X.take kx)++ [(⟨(r.out.1,(j:Int),vg),vn,(u0,u1)⟩:Ety)]))::_):=sJ h123
 obtain⟨hn125,hn126⟩:=sl_le h124
 refine⟨kd [rd 0 15 5 1 1 h124],nxG ?_⟩
 refine actG ?_
 refine aG 78 6 (Ot 71) (Ot 77) (.agg #[iV 0,iV 0,uV 0,iV 0,iV 0,uV 0]) p120 q66 (kx+1) cap121 (X.length-kx) (c19-kx) 48 underlying211 h124 6 rfl (fl eE (X.drop kx)) (gv_from eE_ok (gv_sl _ _ _) rfl om om hq67) (by rw[fl_len eE_ok,show (X.drop kx).length=X.length-kx from List.length_drop]) (fl_one eE_ok _) (X.length+1) ?_
 intro p127 cap128 w129 h130
 have h131:sat g _ (Sl 305 6 p127 (X.length+1) cap128 (fl eE (((X.take kx)++ [(⟨(r.out.1,(j:Int),vg),vn,(u0,u1)⟩:Ety)])++(X.drop kx)))::_):=sJ h130
 obtain⟨hn132,hn133⟩:=sl_le h131
 refine⟨kd [],nxG ?_⟩
 have h134:=h131.e.t11
 refine g0<|sG [(1,.slice p127 (X.length+1) cap128)] [pV s17,.slice p127 (X.length+1) cap128,.slice p20 Q.length c21] h134 fun _ h136=>⟨kd [],?_⟩
 have h137:=h136.h.t11
 refine go [rd 7 1 3 0 3 h136]<|sA [iV r.out.1,iV (j:Int),uV vg] h137 fun w138 h139=>g0 ?_
 have h141:sat g _ (Sl 305 6 p127 (X.length+1) cap128 (fl eE (insX X j ⟨(r.out.1,(j:Int),vg),vn,(u0,u1)⟩))::_):=sat_imp h139.b.t11 (fun _ hh_=>by rw[show ((((X.take kx)++ [(⟨(r.out.1,(j:Int),vg),vn,(u0,u1)⟩:Ety)])++(X.drop kx)):List Ety)=(insX X j ⟨(r.out.1,(j:Int),vg),vn,(u0,u1)⟩) from (ins_at hbx_ om hnx_)] at hh_;exact hh_)
 have h142:=h141.h.a.x.d.t11
 have h143:sat g _ (Zr b n (A.set j (1,vg)) (insX X j ⟨(r.out.1,(j:Int),vg),vn,(u0,u1)⟩) Q::_):=zr_close (by rw[ins_len];omega) ((ins_len _ _ _).symm▸om) lE h142
 exact enR (.agg #[iV r.out.1,iV (j:Int),uV vg]) [rd 0 0 0 0 3 h139] h143.x.a.t2
section
variable {n : Nat} {S : Ts}
theorem zall_at(W:Wf n S){i:Nat}{e:Ety}(h:(allE S.E)[i]? =some e):gget S.E e.d.2.1=some e:=by
 obtain⟨k,_,hk⟩:=mem_allE.1 (List.mem_of_getElem? h)
 rw[(W.ent _ _ hk).2.1]
 exact hk
theorem fnd_hit(W:Wf n S){i:Nat}{e:Ety}{d:Ky}(hg:goodD d)(h:(allE S.E)[i]? =some e)(he:e.d=d):fndE S d=0∧fndX S d=e:=by
 have h1:=zall_at W h
 rw[he] at h1
 exact fndX_ok hg h1 he
theorem fnd_miss(W:Wf n S){d:Ky}(hg:goodD d)(h:((allE S.E).any fun e=>decide (e.d=d))=false):fndE S d=7∧fndX S d=noE:=fndX_no hg fun e he hd=>by
 have:=List.any_eq_false.1 h e (wf_all W he)
 simp only[hd,decide_true,not_true_eq_false] at this
theorem hasX_eq(E:Tm)(h:Int×Int):hasX (allE E) h=decide (hasH E h):=by
 unfold hasX hasH
 cases h1:(allE E).any fun e=>decide (e.h=h) with
 |true=>
  obtain⟨e,he,hh⟩:=List.any_eq_true.1 h1
  exact(decide_eq_true ⟨e,he,of_decide_eq_true hh⟩).symm
 |false=>
  refine(decide_eq_false ?_).symm
  rintro⟨e,he,hh⟩
  exact absurd (decide_eq_true hh) (List.any_eq_false.1 h1 e he)
theorem hasP_eq(R:List Rs)(o:Ky):hasP R o=decide (hasO R o):=by
 unfold hasP hasO
 cases h1:R.any fun r=>decide (r.out=o) with
 |true=>
  obtain⟨e,he,hh⟩:=List.any_eq_true.1 h1
  exact(decide_eq_true ⟨e,he,of_decide_eq_true hh⟩).symm
 |false=>
  refine(decide_eq_false ?_).symm
  rintro⟨e,he,hh⟩
  exact absurd (decide_eq_true hh) (List.any_eq_false.1 h1 e he)
def Kyd(E:Tm):Prop:= ∀(k:Int) (e:Ety),gget E k=some e→e.d.2.1=k
theorem some_lt{E:Tm}(hk:Kyd E){k:Nat}: ∀e∈someE E k,e.d.2.1<(k:Int):=fun e he=>by
 unfold someE at he
 obtain⟨j,hj,h⟩:=List.mem_filterMap.1 he
 rw[hk _ _ h]
 have:=List.mem_range.1 hj
 omega
theorem insX_cons(x:Ety)(X:List Ety)(j:Nat)(e:Ety):insX (x::X) j e=if x.d.2.1<(j:Int) then x::insX X j e else e::x::X:=rfl
theorem ins_app{X Y:List Ety}{j:Nat}{e:Ety}(hX: ∀x∈X,x.d.2.1<(j:Int)):insX (X++Y) j e=X++insX Y j e:=by
 induction X with
 |nil=>rfl
 |cons x X ih=>
  show insX (x::(X++Y)) j e=_
  rw[insX_cons,if_pos (hX x List.mem_cons_self),ih fun y hy=>hX y (List.mem_cons_of_mem _ hy)]
  rfl
theorem ins_hd{Y:List Ety}{j:Nat}{e:Ety}(hY: ∀y∈Y,(j:Int)≤y.d.2.1):insX Y j e=e::Y:=by
 cases Y with
 |nil=>rfl
 |cons y Y=>
  rw[insX_cons,if_neg (by have:=hY y List.mem_cons_self;omega)]
def tailE(E:Tm)(j:Nat):Nat→List Ety
 |0=> []
 |m+1=>match gget E (j:Int) with
  |some e=>e::tailE E (j+1) m
  |none=>tailE E (j+1) m
theorem tailE_succ(E:Tm)(j m:Nat):tailE E j (m+1)=match gget E (j:Int) with
 |some e=>e::tailE E (j+1) m
 |none=>tailE E (j+1) m:=rfl
theorem some_tail(E:Tm): ∀(m j:Nat),someE E (j+m)=someE E j++tailE E j m
 |0,j=>by simp[tailE]
 |m+1,j=>by
  have ih:=some_tail E m (j+1)
  rw[show j+(m+1)=j+1+m from by omega,ih,tailE_succ]
  cases hg:gget E (j:Int) with
  |none=>rw[someE_no hg]
  |some e=>rw[someE_go hg,List.append_assoc];rfl
theorem tail_ge{E:Tm}(hk:Kyd E): ∀(m j:Nat),∀e∈tailE E j m,(j:Int)≤e.d.2.1
 |0,j,e,h=>by cases h
 |m+1,j,e,h=>by
  rw[tailE_succ] at h
  cases hg:gget E (j:Int) with
  |none=>
   rw[hg] at h
   have:=tail_ge hk m (j+1) e h
   omega
  |some x=>
   rw[hg] at h
   rcases List.mem_cons.1 h with rfl |h
   · rw[hk _ _ hg]
     exact Int.le_refl _
   · have:=tail_ge hk m (j+1) e h
     omega
theorem tail_set{E:Tm}{e:Ety}{i:Nat}: ∀(m j:Nat),i<j→tailE (gset E (i:Int) e) j m=tailE E j m
 |0,_,_=>rfl
 |m+1,j,h=>by
  rw[tailE_succ,tailE_succ,gget_set,if_neg om,tail_set m (j+1) om]
theorem tail_del{E:Tm}{i:Nat}: ∀(m j:Nat),i<j→tailE (gdel E (i:Int)) j m=tailE E j m
 |0,_,_=>rfl
 |m+1,j,h=>by
  rw[tailE_succ,tailE_succ,gget_del om,tail_del m (j+1) om]
theorem some_cong{E E2:Tm}: ∀(k:Nat),(∀j:Nat,j<k→gget E2 (j:Int)=gget E (j:Int))→someE E2 k=someE E k
 |0,_=>rfl
 |k+1,h=>by
  have ih:=some_cong k fun j hj=>h j om
  have h1:=h k om
  cases hg:gget E (k:Int) with
  |none=>rw[someE_no hg,someE_no (h1.trans hg),ih]
  |some e=>rw[someE_go hg,someE_go (h1.trans hg),ih]
theorem some_set{E:Tm}{e:Ety}{i k:Nat}(h:k≤i):someE (gset E (i:Int) e) k=someE E k:=some_cong k fun j hj=>by rw[gget_set,if_neg om]
theorem some_del{E:Tm}{i k:Nat}(h:k≤i):someE (gdel E (i:Int)) k=someE E k:=some_cong k fun j hj=>gget_del om
theorem all_split(E:Tm){j:Nat}(h:j<256):allE E=someE E j++tailE E j (256-j):=by
 have:=some_tail E (256-j) j
 rw[show j+(256-j)=256 from by omega] at this
 exact this
theorem tail_one{E:Tm}{j m:Nat}(h:0<m):tailE E j m=(match gget E (j:Int) with |some e=> [e]|none=> [])++tailE E (j+1) (m-1):=by
 cases m with
 |zero=>omega
 |succ m=>
  rw[tailE_succ]
  cases gget E (j:Int)<;>rfl
theorem ins_all{E:Tm}(hk:Kyd E){j:Nat}{e:Ety}(hj:j<256)(hn:gget E (j:Int)=none):insX (allE E) j e=allE (gset E (j:Int) e):=by
 rw[all_split E hj,ins_app (some_lt hk),ins_hd (tail_ge hk _ _),all_split (gset E (j:Int) e) hj,some_set (Nat.le_refl j),tail_one (E:=E) om,hn,tail_one (E:=gset E (j:Int) e) om,gget_set,if_pos rfl,tail_set _ _ om]
 rfl
theorem del_all{E:Tm}(hk:Kyd E)(hn:KN E){j i:Nat}{e:Ety}(hj:j<256)(hg:gget E (j:Int)=some e)(hi:(allE E)[i]? =some e):(allE E).take i++(allE E).drop (i+1)=allE (gdel E (j:Int)):=by
 have hL: ∀x∈someE E j,x.d.2.1<(j:Int):=some_lt hk
 have hT:=tail_ge hk (256-j-1) (j+1)
 have he:=hk _ _ hg
 have h1:allE E=someE E j++(e::tailE E (j+1) (256-j-1)):=by
  rw[all_split E hj,tail_one (E:=E) om,hg]
  rfl
 have hil:i=(someE E j).length:=by
  rw[h1] at hi
  rcases Nat.lt_trichotomy i (someE E j).length with h2|h2|h2
  · rw[List.getElem?_append_left h2] at hi
    have:=hL e (List.mem_of_getElem? hi)
    omega
  · exact h2
  · rw[List.getElem?_append_right om] at hi
    obtain⟨q,hq⟩: ∃q,i-(someE E j).length=q+1:=⟨i-(someE E j).length-1,by omega⟩
    rw[hq,List.getElem?_cons_succ] at hi
    have:=hT e (List.mem_of_getElem? hi)
    omega
 have h2:allE (gdel E (j:Int))=someE E j++tailE E (j+1) (256-j-1):=by
  rw[all_split (gdel E (j:Int)) hj,some_del (Nat.le_refl j),tail_one (E:=gdel E (j:Int)) om,gget_del_self hn,tail_del _ _ om]
  rfl
 rw[h2,h1,hil,List.take_left,show (someE E j).length+1=(someE E j).length+1 from rfl,List.drop_append,List.drop_eq_nil_of_le om,List.nil_append,show (someE E j).length+1-(someE E j).length=1 from by omega]
 rfl
theorem wf_kyd(W:Wf n S):Kyd S.E:=fun k e h=>(W.ent k e h).2.1
end
theorem wfind_ht(b n:Nat)(S:Ts)(hW:Wf n S)(d0 d1 d2:Int)(hz:0≤d2):HT prog 215 [Value.pointer (some ⟨b,0,none⟩),Value.agg #[Value.int IntKind.i64 d0,Value.int IntKind.i64 d1,Value.int IntKind.u32 d2]] [Zr b n S.A (allE S.E) S.R] (fun v K=> ∃i:Nat,(fndE S (d0,d1,d2)=0→(allE S.E)[i]? =some (fndX S (d0,d1,d2)))∧v=Value.tuple #[Value.int IntKind.i64 (i:Int),Value.int IntKind.i64 (fndE S (d0,d1,d2))]∧K= [Zr b n S.A (allE S.E) S.R]):=by
 by_cases hg:goodD (d0,d1,d2)
 · exact(zfind_ht b n S.A (allE S.E) S.R d0 d1 d2 hg).post fun v K hP=>⟨K,by
    rcases hP with ⟨i,e,h1,h2,rfl,rfl⟩|⟨h1,rfl,rfl⟩
    · obtain⟨h3,h4⟩:=fnd_hit hW hg h1 h2
      exact⟨i,fun _=>by rw[h4];exact h1,by rw[h3],rfl⟩
    · obtain⟨h3,h4⟩:=fnd_miss hW hg h1
      exact⟨0,fun h=>by omega,by rw[h3];rfl,rfl⟩,fun _ _ _ h=>h⟩
 · exact(zfind_bad b n S.A (allE S.E) S.R d0 d1 d2 hz hg).post fun v K hP=>⟨K,by
    obtain⟨rfl,rfl⟩:=hP
    obtain⟨h3,h4⟩:=fndX_bad (S:=S) hg
    exact⟨0,fun h=>by omega,by rw[h3];rfl,rfl⟩,fun _ _ _ h=>h⟩
theorem wnum_ht(b n:Nat)(S:Ts)(vn:Int):HQ 154 [pV b,iV vn] [Zr b n S.A (allE S.E) S.R] (iV (nE S vn)) [Zr b n S.A (allE S.E) S.R]:=by
 refine hiS func154 ntmps154 fun g w0 R h0=> ?_
 obtain⟨s10,p11,c12,p13,c14,hq15,h16⟩:=zr_open h0
 have hb17:=hq15.1
 have hb18:=hq15.2
 refine g0<|cl1 call148 (rvalid_cl b s10 p11 ((allE S.E).length) c12 p13 S.R.length c14) h16 fun w19 h20=>go [.s 3 1] ?_
 by_cases c21:vn<1
 ·
  refine go [.v 3 1 (oT _ c21)] ?_
  have h22:sat g _ (Zr b n S.A (allE S.E) S.R::_):=zr_close lO lE lE h20
  exact en (iV 3) [] ⟨_,_,rfl,⟨by rw[show nE S vn=3 from if_neg om],rfl⟩,h22⟩
 refine go [.v 3 1 (oF _ c21),rd 3 7 0 2 1 h20,.s 3 9] ?_
 by_cases c23:vn>(S.R.length:Int)
 ·
  refine go [.v 3 9 (oT _ c23)] ?_
  have h24:sat g _ (Zr b n S.A (allE S.E) S.R::_):=zr_close lO lE lE h20
  exact en (iV 3) [] ⟨_,_,rfl,⟨by rw[show nE S vn=3 from if_neg om],rfl⟩,h24⟩
 refine go [.v 3 9 (oF _ c23)] ?_
 have h25:sat g _ (Zr b n S.A (allE S.E) S.R::_):=zr_close lO lE lE h20
 exact en (iV 0) [] ⟨_,_,rfl,⟨by rw[show nE S vn=0 from if_pos om],rfl⟩,h25⟩
theorem zlen_ht(b n:Nat)(S:Ts):HQ 72 [pV b] [Zr b n S.A (allE S.E) S.R] (iV (S.R.length:Int)) [Zr b n S.A (allE S.E) S.R]:=by
 refine hiS func72 ntmps72 fun g w0 R h0=> ?_
 obtain⟨s10,p11,c12,p13,c14,hq15,h16⟩:=zr_open h0
 have hb17:=hq15.1
 have hb18:=hq15.2
 refine g0<|cl1 call148 (rvalid_cl b s10 p11 ((allE S.E).length) c12 p13 S.R.length c14) h16 fun w19 h20=>go [rd 3 3 0 2 1 h20] ?_
 have h21:sat g _ (Zr b n S.A (allE S.E) S.R::_):=zr_close lO lE lE h20
 exact enR _ [] h21
theorem getR_ix{S:Ts}{v:Int}{q:Nat}{r:Rs}(hv:v=(q:Int)+1)(h:S.R[q]? =some r):getR S v=r:=by
 unfold getR
 rw[if_pos om,show (v-1).toNat=q from by omega,h]
 rfl
theorem getR_oor{S:Ts}{v:Int}(h:v<1∨(S.R.length:Int)<v):getR S v=rs0:=by
 unfold getR
 split
 · rw[List.getElem?_eq_none om]
   rfl
 · rfl
theorem zget_ht(b n:Nat)(S:Ts)(vn:Int):HQ 73 [pV b,iV vn] [Zr b n S.A (allE S.E) S.R] (.tuple #[.agg #[iV ((getR S vn).out.1),iV ((getR S vn).out.2.1),uV ((getR S vn).out.2.2),iV ((getR S vn).st),iV ((getR S vn).why),iV ((getR S vn).tr),iV ((getR S vn).nx),.string (St ((getR S vn).tag))],iV (nE S vn)]) [Zr b n S.A (allE S.E) S.R]:=by
 refine hiS func73 ntmps73 fun g w0 R h0=>g0<|nP 149 [iV 0,iV 0,uV 0,iV 0,iV 0,iV 0,iV 0,.string (St [])] h0 (fun r10 _ h12=> ?_)
 refine g0 ?_
 by_cases c13:1≤vn
 ·
  by_cases c14:vn≤(S.R.length:Int)
  ·
   refine cl1 call154 (by have h_:=wnum_ht b n S vn;rw[(show nE S vn=0 from if_pos om)] at h_;exact h_) h12.a.t3 fun _ h17=> ?_
   obtain⟨s18,p19,c20,p21,c22,hq23,h24⟩:=zr_open h17
   have hb25:=hq23.1
   have hb26:=hq23.2
   obtain⟨b27,hp28⟩:=sl_ptr0 (j:=3) h24 rfl om
   obtain⟨kk29,hk30⟩: ∃z_:Nat,vn-1=(z_:Int):=⟨(vn-1).toNat,by omega⟩
   refine go [rd 4 3 0 2 1 h24,.v 4 5 (oIr (vn-1)),.s 4 6]<|lwP (.pointer (some ⟨b27,kk29*8,none⟩)) (liP (Ot 17) (Ot 19) p21 b27 0 (vn-1) S.R.length c22 underlying212 8 kk29 hp28 (kk29*8)) ?_
   obtain⟨x31,hx32⟩:=gX S.R kk29 om
   have h33:=h24.d.t6
   refine go [.r 4 7 b27 (kk29*8) [iV x31.out.1,iV x31.out.2.1,uV x31.out.2.2,iV x31.st,iV x31.why,iV x31.tr,iV x31.nx,.string (St x31.tag)] ⟨gvc 3 h24 rfl hp28 eRs_ok 0 (iV x31.out.1) hx32 (kk29*8),gvc 3 h24 rfl hp28 eRs_ok 1 (iV x31.out.2.1) hx32 (kk29*8+1),gvc 3 h24 rfl hp28 eRs_ok 2 (uV x31.out.2.2) hx32 (kk29*8+2),gvc 3 h24 rfl hp28 eRs_ok 3 (iV x31.st) hx32 (kk29*8+3),gvc 3 h24 rfl hp28 eRs_ok 4 (iV x31.why) hx32 (kk29*8+4),gvc 3 h24 rfl hp28 eRs_ok 5 (iV x31.tr) hx32 (kk29*8+5),gvc 3 h24 rfl hp28 eRs_ok 6 (iV x31.nx) hx32 (kk29*8+6),gvc 3 h24 rfl hp28 eRs_ok 7 (.string (St x31.tag)) hx32 (kk29*8+7),trivial⟩]<|sA [iV x31.out.1,iV x31.out.2.1,uV x31.out.2.2,iV x31.st,iV x31.why,iV x31.tr,iV x31.nx,.string (St x31.tag)] h33 fun w34 h35=>g0 ?_
   have h37:sat g _ (Zr b n S.A (allE S.E) S.R::_):=zr_close lO lE lE h35.d.d.d.d.t6
   exact en (.tuple #[.agg #[iV x31.out.1,iV x31.out.2.1,uV x31.out.2.2,iV x31.st,iV x31.why,iV x31.tr,iV x31.nx,.string (St x31.tag)],iV 0]) [rd 0 0 0 0 8 h35] ⟨_,_,rfl,⟨by rw[show nE S vn=0 from if_pos om,getR_ix om hx32],rfl⟩,h37.B.t2⟩
  refine cl1 call154 (by have h_:=wnum_ht b n S vn;rw[(show nE S vn=3 from if_neg om)] at h_;exact h_) h12.a.t3 fun _ h41=> ?_
  have h42:=h41.a.t3
  refine g0<|sA [iV 0,iV 0,uV 0,iV 0,iV 0,iV 0,iV 0,.string (St [])] h42 fun _ h44=>g0 ?_
  exact en (.tuple #[.agg #[iV 0,iV 0,uV 0,iV 0,iV 0,iV 0,iV 0,.string (St [])],iV 3]) [rd 0 0 0 0 8 h44] ⟨_,_,rfl,⟨by rw[show nE S vn=3 from if_neg om,getR_oor om];rfl,rfl⟩,(tk2 (sf1 (sf2 h44.a.t3)))⟩
 refine cl1 call154 (by have h_:=wnum_ht b n S vn;rw[(show nE S vn=3 from if_neg om)] at h_;exact h_) h12.a.t3 fun _ h49=> ?_
 have h50:=h49.a.t3
 refine g0<|sA [iV 0,iV 0,uV 0,iV 0,iV 0,iV 0,iV 0,.string (St [])] h50 fun _ h52=>g0 ?_
 exact en (.tuple #[.agg #[iV 0,iV 0,uV 0,iV 0,iV 0,iV 0,iV 0,.string (St [])],iV 3]) [rd 0 0 0 0 8 h52] ⟨_,_,rfl,⟨by rw[show nE S vn=3 from if_neg om,getR_oor om];rfl,rfl⟩,(tk2 (sf1 (sf2 h52.a.t3)))⟩
theorem seq72_neq_t{n:Nat}{l:Fr}{o:Oper}{x y:Operand}(a0 a1 a2 c0 c1 c2:Int)(ho:o.op= .binOp .neq 72 x y 72)(hx:fe n l x= .agg #[.int .i64 a0,.int .i64 a1,.int .u32 a2])(hy:fe n l y= .agg #[.int .i64 c0,.int .i64 c1,.int .u32 c2])(h:a0=c0∧a1=c1∧a2=c2)(w:World):(execOp (fe n l) o).run prog w= .ok (.value (.bool false)) w:=by
 obtain⟨rfl,rfl,rfl⟩:=h
 simp[execOp,ho,hx,hy,go_sem]
theorem seq72_neq_f{n:Nat}{l:Fr}{o:Oper}{x y:Operand}(a0 a1 a2 c0 c1 c2:Int)(ho:o.op= .binOp .neq 72 x y 72)(hx:fe n l x= .agg #[.int .i64 a0,.int .i64 a1,.int .u32 a2])(hy:fe n l y= .agg #[.int .i64 c0,.int .i64 c1,.int .u32 c2])(h: ¬(a0=c0∧a1=c1∧a2=c2))(w:World):(execOp (fe n l) o).run prog w= .ok (.value (.bool true)) w:=by
 by_cases h0:a0=c0
 · skip
   by_cases h1:a1=c1
   · skip
     by_cases h2:a2=c2
     · exact absurd ⟨h0,h1,h2⟩ h
     · simp[execOp,ho,hx,hy,go_sem,h0,h1,h2]
   · simp[execOp,ho,hx,hy,go_sem,h0,h1]
 · simp[execOp,ho,hx,hy,go_sem,h0]
theorem tset_out(b n:Nat)(A:List Sl2)(E:Tm)(RL:List Rs)(vn x y z st why tr nx:Int)(L:List UInt8)(hz0:0≤z)(hz1:z≤4294967295)(hm:L.length≤1099511627776)(q:Nat)(r:Rs)(hr:RL[q]? =some r)(hv:vn=(q:Int)+1)(he:resE x y z st why tr nx L=0)(ho: ¬(x=r.out.1∧y=r.out.2.1∧z=r.out.2.2)):HQ 54 [pV b,iV vn,.agg #[iV x,iV y,uV z,iV st,iV why,iV tr,iV nx,.string (St L)]] [Tab b n A E RL] (iV 2) [Tab b n A E RL]:=by
 have hq_:=(List.getElem?_eq_some_iff.1 hr).1
 refine hiS func54 ntmps54 fun g w0 R h0=>g0<|nP 82 [iV x,iV y,uV z,iV st,iV why,iV tr,iV nx,.string (St L)] h0 (fun _ _ h12=> ?_)
 have h13:=h12.a.t3
 refine g0<|cl1 call45 (tget_ok b n A E RL vn q r hr om) h13 fun _ h15=>g0<|nP 82 [iV 0,iV 0,uV 0,iV 0,iV 0,iV 0,iV 0,.string (St [])] h15 (fun _ _ h18=> ?_)
 refine sA [iV r.out.1,iV r.out.2.1,uV r.out.2.2,iV r.st,iV r.why,iV r.tr,iV r.nx,.string (St r.tag)] h18 fun _ h20=>go [rd 4 0 2 0 8 h20]<|cl0 call125 (rchk_ht x y z st why tr nx L om om om) h20 fun _ h22=> ?_
 have h25:=h22.a.t4
 refine go [.v 5 1 (qnF (resE x y z st why tr nx L) 0)]<|cP call123 (tdescs_ok b n A E RL vn om) h25 ?_
 rintro v K _ (⟨p23,c24,rfl,rfl⟩) h27
 have h28:=ap2 h27
 refine go [rd 8 1 3 0 3 h28,rd 8 3 2 0 3 h28,.s 8 4] ?_
 by_cases c29:x=r.out.1
 ·
  by_cases c30:y=r.out.2.1
  ·
   refine lwP (.bool true) (seq72_neq_f (x:=Ot 33) (y:=Ot 35) x y z r.out.1 r.out.2.1 r.out.2.2 kr kr kr om _)<|g0 ?_
   exact enR _ [] h28.d.a.t2
  refine lwP (.bool true) (seq72_neq_f (x:=Ot 33) (y:=Ot 35) x y z r.out.1 r.out.2.1 r.out.2.2 kr kr kr om _)<|g0 ?_
  exact enR _ [] h28.d.a.t2
 refine lwP (.bool true) (seq72_neq_f (x:=Ot 33) (y:=Ot 35) x y z r.out.1 r.out.2.1 r.out.2.2 kr kr kr om _)<|g0 ?_
 exact enR _ [] h28.d.a.t2
theorem tset_tag(b n:Nat)(A:List Sl2)(E:Tm)(RL:List Rs)(vn x y z st why tr nx:Int)(L:List UInt8)(hz0:0≤z)(hz1:z≤4294967295)(hm:L.length≤1099511627776)(q:Nat)(r:Rs)(hr:RL[q]? =some r)(hv:vn=(q:Int)+1)(he:resE x y z st why tr nx L=0)(ho:x=r.out.1∧y=r.out.2.1∧z=r.out.2.2)(ht: ¬L=r.tag):HQ 54 [pV b,iV vn,.agg #[iV x,iV y,uV z,iV st,iV why,iV tr,iV nx,.string (St L)]] [Tab b n A E RL] (iV 2) [Tab b n A E RL]:=by
 have hq_:=(List.getElem?_eq_some_iff.1 hr).1
 refine hiS func54 ntmps54 fun g w0 R h0=>g0<|nP 82 [iV x,iV y,uV z,iV st,iV why,iV tr,iV nx,.string (St L)] h0 (fun _ _ h12=> ?_)
 have h13:=h12.a.t3
 refine g0<|cl1 call45 (tget_ok b n A E RL vn q r hr om) h13 fun _ h15=>g0<|nP 82 [iV 0,iV 0,uV 0,iV 0,iV 0,iV 0,iV 0,.string (St [])] h15 (fun _ _ h18=> ?_)
 refine sA [iV r.out.1,iV r.out.2.1,uV r.out.2.2,iV r.st,iV r.why,iV r.tr,iV r.nx,.string (St r.tag)] h18 fun _ h20=>go [rd 4 0 2 0 8 h20]<|cl0 call125 (rchk_ht x y z st why tr nx L om om om) h20 fun _ h22=> ?_
 have h25:=h22.a.t4
 refine go [.v 5 1 (qnF (resE x y z st why tr nx L) 0)]<|cP call123 (tdescs_ok b n A E RL vn om) h25 ?_
 rintro v K _ (⟨p23,c24,rfl,rfl⟩) h27
 have h28:=ap2 h27
 refine go [rd 8 1 3 0 3 h28,rd 8 3 2 0 3 h28,.s 8 4]<|lwP (.bool false) (seq72_neq_t (x:=Ot 33) (y:=Ot 35) x y z r.out.1 r.out.2.1 r.out.2.2 kr kr kr ⟨om,om,om⟩ _)<|go [rd 8 7 3 7 1 h28,rd 8 9 2 7 1 h28,.s 8 10]<|lwP (.bool true) (law_neStr (t:=9) (x:=Ot 39) (y:=Ot 41) (a:=L) (b:=r.tag) kr kr kr true ((decide_eq_false ht).trans rfl) _)<|g0 ?_
 exact enR _ [] h28.d.a.t2
theorem tset_state(b n:Nat)(A:List Sl2)(E:Tm)(RL:List Rs)(vn x y z st why tr nx:Int)(L:List UInt8)(hz0:0≤z)(hz1:z≤4294967295)(hm:L.length≤1099511627776)(q:Nat)(r:Rs)(hr:RL[q]? =some r)(hv:vn=(q:Int)+1)(he:resE x y z st why tr nx L=0)(ho:x=r.out.1∧y=r.out.2.1∧z=r.out.2.2)(ht:L=r.tag)(hs:st≠1)(hd:0<(descs E vn).length):HQ 54 [pV b,iV vn,.agg #[iV x,iV y,uV z,iV st,iV why,iV tr,iV nx,.string (St L)]] [Tab b n A E RL] (iV 8) [Tab b n A E RL]:=by
 have hq_:=(List.getElem?_eq_some_iff.1 hr).1
 refine hiS func54 ntmps54 fun g w0 R h0=>g0<|nP 82 [iV x,iV y,uV z,iV st,iV why,iV tr,iV nx,.string (St L)] h0 (fun _ _ h12=> ?_)
 have h13:=h12.a.t3
 refine g0<|cl1 call45 (tget_ok b n A E RL vn q r hr om) h13 fun _ h15=>g0<|nP 82 [iV 0,iV 0,uV 0,iV 0,iV 0,iV 0,iV 0,.string (St [])] h15 (fun _ _ h18=> ?_)
 refine sA [iV r.out.1,iV r.out.2.1,uV r.out.2.2,iV r.st,iV r.why,iV r.tr,iV r.nx,.string (St r.tag)] h18 fun _ h20=>go [rd 4 0 2 0 8 h20]<|cl0 call125 (rchk_ht x y z st why tr nx L om om om) h20 fun _ h22=> ?_
 have h25:=h22.a.t4
 refine go [.v 5 1 (qnF (resE x y z st why tr nx L) 0)]<|cP call123 (tdescs_ok b n A E RL vn om) h25 ?_
 rintro v K _ (⟨p23,c24,rfl,rfl⟩) h27
 have h28:=ap2 h27
 refine go [rd 8 1 3 0 3 h28,rd 8 3 2 0 3 h28,.s 8 4]<|lwP (.bool false) (seq72_neq_t (x:=Ot 33) (y:=Ot 35) x y z r.out.1 r.out.2.1 r.out.2.2 kr kr kr ⟨om,om,om⟩ _)<|go [rd 8 7 3 7 1 h28,rd 8 9 2 7 1 h28,.s 8 10]<|lwP (.bool false) (law_neStr (t:=9) (x:=Ot 39) (y:=Ot 41) (a:=L) (b:=r.tag) kr kr kr false (decide_eq_true ht) _)<|go [rd 10 1 3 3 1 h28,.v 10 2 (qnT st 1),.v 10 6 (oT ((((descs E vn).length:Nat):Int)>0))] ?_
 exact enR _ [] h28.d.a.t2
theorem tset_ok1(b n:Nat)(A:List Sl2)(E:Tm)(RL:List Rs)(vn x y z st why tr nx:Int)(L:List UInt8)(hz0:0≤z)(hz1:z≤4294967295)(hm:L.length≤1099511627776)(q:Nat)(r:Rs)(hr:RL[q]? =some r)(hv:vn=(q:Int)+1)(he:resE x y z st why tr nx L=0)(ho:x=r.out.1∧y=r.out.2.1∧z=r.out.2.2)(ht:L=r.tag)(hs:st=1):HQ 54 [pV b,iV vn,.agg #[iV x,iV y,uV z,iV st,iV why,iV tr,iV nx,.string (St L)]] [Tab b n A E RL] (iV 0) [Tab b n A E (RL.set q ⟨(x,y,z),st,why,tr,nx,L⟩)]:=by
 have hq_:=(List.getElem?_eq_some_iff.1 hr).1
 refine hiS func54 ntmps54 fun g w0 R h0=>g0<|nP 82 [iV x,iV y,uV z,iV st,iV why,iV tr,iV nx,.string (St L)] h0 (fun r10 _ h12=> ?_)
 have h13:=h12.a.t3
 refine g0<|cl1 call45 (tget_ok b n A E RL vn q r hr om) h13 fun _ h15=>g0<|nP 82 [iV 0,iV 0,uV 0,iV 0,iV 0,iV 0,iV 0,.string (St [])] h15 (fun r16 _ h18=> ?_)
 refine sA [iV r.out.1,iV r.out.2.1,uV r.out.2.2,iV r.st,iV r.why,iV r.tr,iV r.nx,.string (St r.tag)] h18 fun _ h20=>go [rd 4 0 2 0 8 h20]<|cl0 call125 (rchk_ht x y z st why tr nx L om om om) h20 fun _ h22=> ?_
 have h25:=h22.a.t4
 refine go [.v 5 1 (qnF (resE x y z st why tr nx L) 0)]<|cP call123 (tdescs_ok b n A E RL vn om) h25 ?_
 rintro v K _ (⟨p23,c24,rfl,rfl⟩) h27
 have h28:=ap2 h27
 refine go [rd 8 1 3 0 3 h28,rd 8 3 2 0 3 h28,.s 8 4]<|lwP (.bool false) (seq72_neq_t (x:=Ot 33) (y:=Ot 35) x y z r.out.1 r.out.2.1 r.out.2.2 kr kr kr ⟨om,om,om⟩ _)<|go [rd 8 7 3 7 1 h28,rd 8 9 2 7 1 h28,.s 8 10]<|lwP (.bool false) (law_neStr (t:=9) (x:=Ot 39) (y:=Ot 41) (a:=L) (b:=r.tag) kr kr kr false (decide_eq_true ht) _)<|go [rd 10 1 3 3 1 h28,.v 10 2 (qnF st 1)]<|dw (fls [0,1,2,3,4,5,6,7] (Tr.an 8 Tr.nil)) h28 fun _ h30=> ?_
 obtain⟨s31,m32,p33,c34,E35,hM36,h37⟩:=tab_open h30
 have hRl_:=hM36.2
 obtain⟨b38,hp39⟩:=sl_ptr0 (j:=3) h37 rfl om
 refine go [rd 12 3 0 2 1 h37,.v 12 5 (oIr (vn-1)),rd 12 6 6 0 8 h37,.s 12 7]<|lw (.pointer (some ⟨b38,q*8,none⟩)) (fun _=>liP (Ot 56) (Ot 58) p33 b38 0 (vn-1) RL.length c34 underlying33 8 q hp39 (q*8)) ?_
 have h40:=h37.c.t8
 refine actG ?_
 have hl43:=fl_n eRs_ok dc h40
 refine an_storeSl (b:=b38) [(q*8,iV x),(q*8+1,iV y),(q*8+2,uV z),(q*8+3,iV st),(q*8+4,iV why),(q*8+5,iV tr),(q*8+6,iV nx),(q*8+7,.string (St L))] (cs':=(fl eRs (RL.set q ⟨(x,y,z),st,why,tr,nx,L⟩))) kr kr hp39 (allq ⟨⟨by omega,rfl⟩,⟨by omega,rfl⟩,⟨by omega,rfl⟩,⟨by omega,rfl⟩,⟨by omega,rfl⟩,⟨by omega,rfl⟩,⟨by omega,rfl⟩,⟨by omega,rfl⟩,trivial⟩) om (fl_upd eRs_ok (i:=q) (x:=r) (y:=⟨(x,y,z),st,why,tr,nx,L⟩) hr [(0,iV x),(1,iV y),(2,uV z),(3,iV st),(4,iV why),(5,iV tr),(6,iV nx),(7,.string (St L))] rfl rfl rfl) h40 ?_
 intro w41 h42
 refine⟨kd [],nxN ?_⟩
 refine g0 ?_
 have h45:sat g _ (Tab b n A E (RL.set q ⟨(x,y,z),st,why,tr,nx,L⟩)::_):=tab_close hM36.1 (by simp only[List.length_append,List.length_set,List.length_cons,List.length_nil];omega) (by simp only[List.length_append,List.length_set,List.length_cons,List.length_nil]) h42.c.c.c.t8
 exact enR _ [] h45.d.a.t2
theorem tset_ok2(b n:Nat)(A:List Sl2)(E:Tm)(RL:List Rs)(vn x y z st why tr nx:Int)(L:List UInt8)(hz0:0≤z)(hz1:z≤4294967295)(hm:L.length≤1099511627776)(q:Nat)(r:Rs)(hr:RL[q]? =some r)(hv:vn=(q:Int)+1)(he:resE x y z st why tr nx L=0)(ho:x=r.out.1∧y=r.out.2.1∧z=r.out.2.2)(ht:L=r.tag)(hd:(descs E vn).length=0):HQ 54 [pV b,iV vn,.agg #[iV x,iV y,uV z,iV st,iV why,iV tr,iV nx,.string (St L)]] [Tab b n A E RL] (iV 0) [Tab b n A E (RL.set q ⟨(x,y,z),st,why,tr,nx,L⟩)]:=by
 have hq_:=(List.getElem?_eq_some_iff.1 hr).1
 refine hiS func54 ntmps54 fun g w0 R h0=>g0<|nP 82 [iV x,iV y,uV z,iV st,iV why,iV tr,iV nx,.string (St L)] h0 (fun r10 _ h12=> ?_)
 have h13:=h12.a.t3
 refine g0<|cl1 call45 (tget_ok b n A E RL vn q r hr om) h13 fun _ h15=>g0<|nP 82 [iV 0,iV 0,uV 0,iV 0,iV 0,iV 0,iV 0,.string (St [])] h15 (fun r16 _ h18=> ?_)
 refine sA [iV r.out.1,iV r.out.2.1,uV r.out.2.2,iV r.st,iV r.why,iV r.tr,iV r.nx,.string (St r.tag)] h18 fun _ h20=>go [rd 4 0 2 0 8 h20]<|cl0 call125 (rchk_ht x y z st why tr nx L om om om) h20 fun _ h22=> ?_
 have h25:=h22.a.t4
 refine go [.v 5 1 (qnF (resE x y z st why tr nx L) 0)]<|cP call123 (tdescs_ok b n A E RL vn om) h25 ?_
 rintro v K _ (⟨p23,c24,rfl,rfl⟩) h27
 have h28:=ap2 h27
 refine go [rd 8 1 3 0 3 h28,rd 8 3 2 0 3 h28,.s 8 4]<|lwP (.bool false) (seq72_neq_t (x:=Ot 33) (y:=Ot 35) x y z r.out.1 r.out.2.1 r.out.2.2 kr kr kr ⟨om,om,om⟩ _)<|go [rd 8 7 3 7 1 h28,rd 8 9 2 7 1 h28,.s 8 10]<|lwP (.bool false) (law_neStr (t:=9) (x:=Ot 39) (y:=Ot 41) (a:=L) (b:=r.tag) kr kr kr false (decide_eq_true ht) _)<|go [rd 10 1 3 3 1 h28,.s 10 2] ?_
 by_cases c29:st=1
 ·
  refine go [.v 10 2 (qnF st 1)]<|dw (fls [0,1,2,3,4,5,6,7] (Tr.an 8 Tr.nil)) h28 fun _ h31=> ?_
  obtain⟨s32,m33,p34,c35,E36,hM37,h38⟩:=tab_open h31
  have hRl_:=hM37.2
  obtain⟨b39,hp40⟩:=sl_ptr0 (j:=3) h38 rfl om
  refine go [rd 12 3 0 2 1 h38,.v 12 5 (oIr (vn-1)),rd 12 6 6 0 8 h38,.s 12 7]<|lw (.pointer (some ⟨b39,q*8,none⟩)) (fun _=>liP (Ot 56) (Ot 58) p34 b39 0 (vn-1) RL.length c35 underlying33 8 q hp40 (q*8)) ?_
  have h41:=h38.c.t8
  refine actG ?_
  have hl44:=fl_n eRs_ok dc h41
  refine an_storeSl (b:=b39) [(q*8,iV x),(q*8+1,iV y),(q*8+2,uV z),(q*8+3,iV st),(q*8+4,iV why),(q*8+5,iV tr),(q*8+6,iV nx),(q*8+7,.string (St L))] (cs':=(fl eRs (RL.set q ⟨(x,y,z),st,why,tr,nx,L⟩))) kr kr hp40 (allq ⟨⟨by omega,rfl⟩,⟨by omega,rfl⟩,⟨by omega,rfl⟩,⟨by omega,rfl⟩,⟨by omega,rfl⟩,⟨by omega,rfl⟩,⟨by omega,rfl⟩,⟨by omega,rfl⟩,trivial⟩) om (fl_upd eRs_ok (i:=q) (x:=r) (y:=⟨(x,y,z),st,why,tr,nx,L⟩) hr [(0,iV x),(1,iV y),(2,uV z),(3,iV st),(4,iV why),(5,iV tr),(6,iV nx),(7,.string (St L))] rfl rfl rfl) h41 ?_
  intro w42 h43
  refine⟨kd [],nxN ?_⟩
  refine g0 ?_
  have h46:sat g _ (Tab b n A E (RL.set q ⟨(x,y,z),st,why,tr,nx,L⟩)::_):=tab_close hM37.1 (by simp only[List.length_append,List.length_set,List.length_cons,List.length_nil];omega) (by simp only[List.length_append,List.length_set,List.length_cons,List.length_nil]) h43.c.c.c.t8
  exact enR _ [] h46.d.a.t2
 refine go [.v 10 2 (qnT st 1),.v 10 6 (oF ((((descs E vn).length:Nat):Int)>0))]<|dw (fls [0,1,2,3,4,5,6,7] (Tr.an 8 Tr.nil)) h28 fun _ h49=> ?_
 obtain⟨s50,m51,p52,c53,E54,hM55,h56⟩:=tab_open h49
 have hRl_:=hM55.2
 obtain⟨b57,hp58⟩:=sl_ptr0 (j:=3) h56 rfl om
 refine go [rd 12 3 0 2 1 h56,.v 12 5 (oIr (vn-1)),rd 12 6 6 0 8 h56,.s 12 7]<|lw (.pointer (some ⟨b57,q*8,none⟩)) (fun _=>liP (Ot 56) (Ot 58) p52 b57 0 (vn-1) RL.length c53 underlying33 8 q hp58 (q*8)) ?_
 have h59:=h56.c.t8
 refine actG ?_
 have hl62:=fl_n eRs_ok dc h59
 refine an_storeSl (b:=b57) [(q*8,iV x),(q*8+1,iV y),(q*8+2,uV z),(q*8+3,iV st),(q*8+4,iV why),(q*8+5,iV tr),(q*8+6,iV nx),(q*8+7,.string (St L))] (cs':=(fl eRs (RL.set q ⟨(x,y,z),st,why,tr,nx,L⟩))) kr kr hp58 (allq ⟨⟨by omega,rfl⟩,⟨by omega,rfl⟩,⟨by omega,rfl⟩,⟨by omega,rfl⟩,⟨by omega,rfl⟩,⟨by omega,rfl⟩,⟨by omega,rfl⟩,⟨by omega,rfl⟩,trivial⟩) om (fl_upd eRs_ok (i:=q) (x:=r) (y:=⟨(x,y,z),st,why,tr,nx,L⟩) hr [(0,iV x),(1,iV y),(2,uV z),(3,iV st),(4,iV why),(5,iV tr),(6,iV nx),(7,.string (St L))] rfl rfl rfl) h59 ?_
 intro w60 h61
 refine⟨kd [],nxN ?_⟩
 refine g0 ?_
 have h64:sat g _ (Tab b n A E (RL.set q ⟨(x,y,z),st,why,tr,nx,L⟩)::_):=tab_close hM55.1 (by simp only[List.length_append,List.length_set,List.length_cons,List.length_nil];omega) (by simp only[List.length_append,List.length_set,List.length_cons,List.length_nil]) h61.c.c.c.t8
 exact enR _ [] h64.d.a.t2
end Go.Proofs.YtehlamblpekmkaaGreatDoor
