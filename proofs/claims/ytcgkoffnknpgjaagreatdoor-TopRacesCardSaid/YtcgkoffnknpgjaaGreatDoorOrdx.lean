/-
  Regions that draw their order: one canonical walk (a tree of choices among the operations that act) serves every order, if what the reading operations read stays in place while they may still be outstanding.
-/
import Derived.Test.YtcgkoffnknpgjaaGreatDoorSepx
import Derived.OrdersHeld
import Derived.Deep.LoopGhost
namespace Go.Proofs.YtcgkoffnknpgjaaGreatDoor
set_option linter.unusedVariables false
set_option linter.unusedSimpArgs false
def FP:Op→Bool
 | .move _| .assign _| .pick .. | .load .. | .nilCheck _| .binOp .. | .unOp .. | .fieldAddr .. | .field .. | .indexAddr .. | .index .. | .extract .. | .slice ..
 | .makeInterface .. | .makeFunc .. | .build .. | .typeAssert .. | .convert .. =>true
 | .call {callee:= .builtin .len,.. }| .call {callee:= .builtin .cap,.. }| .call {callee:= .builtin .min,.. }| .call {callee:= .builtin .max,.. }=>true
 |_=>false
abbrev Pt:=Nat×Addr×Value
def BV(w:World)(pts:List Pt):Prop:= ∀q∈pts,w.cell? q.2.1=some q.2.2
theorem Bb(w:World):BV w []:=by simp[BV]
theorem CO{w:World}{i:Nat}{a:Addr}{v:Value}{r:List Pt}(h:w.cell? a=some v)(hr:BV w r):BV w ((i,a,v)::r):=by
 intro q hq
 rcases List.mem_cons.1 hq with rfl |hq
 · exact h
 · exact hr q hq
def TQ(ops:Array Oper)(k j:Nat):Bool:=
 match ops[k]? with
 |some o=>o.after.any fun e=>Region.binds .any e&&e.on==j
 |none=>false
def bY(ops:Array Oper)(k:Nat):Bool:=
 match ops[k]? with
 |some o=>FP o.op
 |none=>false
def M9(ops:Array Oper):Nat→Nat→Nat→Bool
 |0,k,j=>TQ ops k j
 |f+1,k,j=>TQ ops k j||(match ops[k]? with |some o=>o.after.any fun e=>Region.binds .any e&&(bY ops e.on&&M9 ops f e.on j)|none=>false)
def Jt(ops:Array Oper)(k j:Nat):Bool:=M9 ops 8 k j
def Dt(ops:Array Oper)(k j:Nat):Bool:=
 match ops[k]? with
 |some o=> !FP o.op&&Jt ops k j
 |none=>false
def CK(ops:Array Oper)(k:Nat)(pts:List Pt):List Pt:=pts.filter fun q=> !Jt ops k q.1
inductive Tr where
 |nil
 |fl (i:Nat) (t:Tr)
 |an (i:Nat) (t:Tr)
 |an2 (i:Nat) (t:Tr) (j:Nat) (u:Tr)
 |an3 (i:Nat) (t:Tr) (j:Nat) (u:Tr) (k:Nat) (v:Tr)
section
variable {P : Program} {ops : Array Oper} {Q : Exit → Act → World → Prop} {md : Region.Mode}
def VB(P:Program)(ops:Array Oper)(Q:Exit→Act→World→Prop)(i:Nat)(pts:List Pt)(K:List Pt→Act→World→Prop)(a:Act)(w:World):Prop:=
 wpOp P ops Q i (fun a' w'=>BV w' (CK ops i pts)∧K (CK ops i pts) a' w') a w
def RW(P:Program)(ops:Array Oper)(Q:Exit→Act→World→Prop):Tr→List Pt→Act→World→Prop
 | .nil,_,a,w=>Q .normal a w
 | .fl i t,pts,a,w=> ∃o v ls,ops[i]? =some o∧(∀q∈ls,q.1=i)∧YieldsIf P ops (fun w'=>BV w' ls) o v a∧BV w ls∧RW P ops Q t (ls++pts) (a.put o.dst v) w
 | .an i t,pts,a,w=>VB P ops Q i pts (RW P ops Q t) a w
 | .an2 i t j u,pts,a,w=>VB P ops Q i pts (RW P ops Q t) a w∧VB P ops Q j pts (RW P ops Q u) a w
 | .an3 i t j u k x,pts,a,w=>VB P ops Q i pts (RW P ops Q t) a w∧VB P ops Q j pts (RW P ops Q u) a w∧VB P ops Q k pts (RW P ops Q x) a w
def Cp(ops:Array Oper)(i:Nat):Bool:=match ops[i]? with |some o=> !FP o.op|none=>false
def Be(ops:Array Oper):Nat→Array Bool→Tr→Bool
 |_,listed,.nil=>(Region.ready .any ops listed).isEmpty
 |0,_,_=>false
 |f+1,listed,.fl i t=>(match ops[i]? with |some o=>FP o.op|none=>false)&&Region.free .any ops listed i&&(Region.ready .any ops listed).contains i&&Be ops f (listed.setIfInBounds i true) t
 |f+1,listed,.an i t=>(Region.ready .any ops listed== [i])&&Cp ops i&&Be ops f (listed.setIfInBounds i true) t
 |f+1,listed,.an2 i t j u=>(Region.ready .any ops listed== [i,j])&&Cp ops i&&Cp ops j&&Be ops f (listed.setIfInBounds i true) t&&Be ops f (listed.setIfInBounds j true) u
 |f+1,listed,.an3 i t j u k x=>(Region.ready .any ops listed== [i,j,k])&&Cp ops i&&Cp ops j&&Cp ops k&&Be ops f (listed.setIfInBounds i true) t&&Be ops f (listed.setIfInBounds j true) u&&Be ops f (listed.setIfInBounds k true) x
def FQ(P:Program)(md:Region.Mode)(ops:Array Oper)(Q:Exit→Act→World→Prop)(S:Array Bool→World→Prop):Nat→Array Bool→Act→World→Prop
 |0,listed,a,w=>Region.ready md ops listed= []∧Q .normal a w
 |fuel+1,listed,a,w=>
  (Region.ready md ops listed= []→Q .normal a w)∧
  ∀i∈Region.ready md ops listed,wpOp P ops Q i (fun a' w'=>S (listed.setIfInBounds i true) w'∧FQ P md ops Q S fuel (listed.setIfInBounds i true) a' w') a w
theorem Ju{S:Array Bool→World→Prop}: ∀(fuel:Nat) (listed:Array Bool) (a:Act) (w:World),FQ P md ops Q S fuel listed a w→wpAny P md ops Q fuel listed a w
 |0,_,_,_,h=>h
 |fuel+1,_,_,_,h=>⟨h.1,fun i hi=>wpOp_mono (fun a' w' h'=>Ju fuel _ a' w' h'.2) (h.2 i hi)⟩
theorem F3{S S':Array Bool→World→Prop}(M:Array Bool→Prop)(hM: ∀l j,M l→M (l.setIfInBounds j true))(hs: ∀l w,M l→S l w→S' l w):
  ∀(fuel:Nat) (listed:Array Bool) (a:Act) (w:World),M listed→FQ P md ops Q S fuel listed a w→FQ P md ops Q S' fuel listed a w
 |0,_,_,_,_,h=>h
 |fuel+1,l,_,_,m,h=>⟨h.1,fun i hi=>wpOp_mono (fun a' w' h'=>⟨hs _ _ (hM l i m) h'.1,F3 M hM hs fuel _ a' w' (hM l i m) h'.2⟩) (h.2 i hi)⟩
def bZ(ops:Array Oper)(l:Array Bool):Prop:= ∀(k:Nat) (o:Oper),ops[k]? =some o→l.getD k false=true→ ∀e∈o.after,Region.binds .any e=true→l.getD e.on false=true
theorem Jv{l:Array Bool}{k j:Nat}(ha: ∀o,ops[k]? =some o→ ∀e∈o.after,Region.binds .any e=true→l.getD e.on false=true)(h:TQ ops k j=true):l.getD j false=true:=by
 unfold TQ at h
 cases ho:ops[k]? with
 |none=>rw[ho] at h;cases h
 |some o=>
  rw[ho] at h
  obtain⟨e,he,hb⟩:=Array.any_eq_true'.1 h
  simp only[Bool.and_eq_true,beq_iff_eq] at hb
  rw[←hb.2]
  exact ha o ho e he hb.1
theorem HI{l:Array Bool}{j:Nat}(hc:bZ ops l): ∀(f k:Nat),(∀o,ops[k]? =some o→ ∀e∈o.after,Region.binds .any e=true→l.getD e.on false=true)→M9 ops f k j=true→l.getD j false=true
 |0,_,ha,h=>Jv ha h
 |f+1,k,ha,h=>by
  unfold M9 at h
  rcases Bool.or_eq_true_iff.1 h with h1|h1
  · exact Jv ha h1
  · cases ho:ops[k]? with
    |none=>rw[ho] at h1;cases h1
    |some o=>
     rw[ho] at h1
     obtain⟨e,he,hb⟩:=Array.any_eq_true'.1 h1
     simp only[Bool.and_eq_true] at hb
     have hl:=ha o ho e he hb.1
     exact HI hc f e.on (fun o2 ho2=>hc e.on o2 ho2 hl) hb.2.2
theorem HJ{l:Array Bool}{k i:Nat}(hc:bZ ops l)(ha: ∀o,ops[k]? =some o→ ∀e∈o.after,Region.binds .any e=true→l.getD e.on false=true)(hi:l.getD i true=false):Dt ops k i=false:=by
 rw[Bool.eq_false_iff]
 intro h
 unfold Dt at h
 cases ho:ops[k]? with
 |none=>rw[ho] at h;cases h
 |some o=>
  rw[ho] at h
  have h1:=HI hc 8 k ha (Bool.and_eq_true_iff.1 h).2
  rcases Nat.lt_or_ge i l.size with h'|h'
  · simp[h'] at hi h1;rw[hi] at h1;cases h1
  · simp[Array.getElem?_eq_none h'] at h1
theorem DT{l:Array Bool}{j:Nat}(hc:bZ ops l)(hj:j∈Region.ready .any ops l):bZ ops (l.setIfInBounds j true):=fun k o ho hk e he hb=>by
 by_cases hjk:j=k
 · subst hjk
   obtain⟨_,o2,ho2,hall⟩:=mem_ready.1 hj
   rw[ho] at ho2
   obtain rfl:=Option.some.inj ho2
   exact getD_set_true (hall e he hb)
 · rw[getD_set_ne false hjk] at hk
   exact getD_set_true (hc k o ho hk e he hb)
theorem NA{S:Array Bool→World→Prop}{p:World→Prop}{i:Nat}{oi:Oper}{v:Value}(hi:ops[i]? =some oi)(hsel: ∀(j:Nat) (o:Oper) cs b,ops[j]? =some o→o.op≠ .select cs b)
 (hQ: ∀c a w,Q (.panic c) (a.put oi.dst v) w→Q (.panic c) a w)
 (hS1: ∀l w',(∀k,l.getD k false=true→Dt ops k i=false)→S l w'→p w')(hS2: ∀l w',S (l.setIfInBounds i true) w'→S l w'):
  ∀(fuel:Nat) (listed:Array Bool) (a:Act) (w:World),
   (∀j oj,ops[j]? =some oj→j≠i→listed.getD j true=false→(∀e∈oj.after,Region.binds .any e=true→e.on≠i)→oi.apart ops oj=true)→
   i∈Region.ready .any ops listed→bZ ops listed→(∀k,listed.getD k false=true→Dt ops k i=false)→YieldsIf P ops p oi v a→p w→S (listed.setIfInBounds i true) w→
   FQ P .any ops Q S fuel (listed.setIfInBounds i true) (a.put oi.dst v) w→FQ P .any ops Q S (fuel+1) listed a w:=by
 intro fuel
 induction fuel with
 |zero=>
  intro listed a w _ hr _ _ hy hp hS H
  refine⟨fun h=>(by rw[h] at hr;cases hr),fun j hj=> ?_⟩
  by_cases hji:j=i
  · subst hji;exact hy.wpOp hi hp ⟨hS,H⟩
  · have:=ready_mono hj hji
    rw[H.1] at this
    cases this
 |succ fuel ih=>
  intro listed a w hfree hr hclo hno hy hp hS H
  refine⟨fun h=>(by rw[h] at hr;cases hr),fun j hj=> ?_⟩
  by_cases hji:j=i
  · subst hji;exact hy.wpOp hi hp ⟨hS,H⟩
  · have h1:=H.2 j (ready_mono hj hji)
    obtain⟨hjun,oj,hoj,hall⟩:=mem_ready.1 hj
    have hnot: ∀e∈oj.after,Region.binds .any e=true→e.on≠i:=fun e he hb heq=>by
     have h1:=hall e he hb
     have h0:=(mem_ready.1 hr).1
     rw[heq] at h1
     rcases Nat.lt_or_ge i listed.size with h'|h'
     · simp[h'] at h0 h1;rw[h0] at h1;cases h1
     · simp[Array.getElem?_eq_none h'] at h1
    have h2:=wpOp_putIf hoj (hfree j oj hoj hji hjun hnot) (fun cs b=>hsel i oi cs b hi) (fun cs b=>hsel j oj cs b hoj) hQ hy h1
    have hfree': ∀k ok,ops[k]? =some ok→k≠i→(listed.setIfInBounds j true).getD k true=false→
      (∀e∈ok.after,Region.binds .any e=true→e.on≠i)→oi.apart ops ok=true:=fun k ok hk hki hun hno=>by
     refine hfree k ok hk hki ?_ hno
     by_cases hjk:j=k
     · subst hjk;exact hjun
     · rw[getD_set_ne true hjk] at hun;exact hun
    have hno': ∀k,(listed.setIfInBounds j true).getD k false=true→Dt ops k i=false:=fun k hk=>by
     by_cases hjk:j=k
     · subst hjk;exact HJ hclo (fun o2 ho2=>by rw[hoj] at ho2;obtain rfl:=Option.some.inj ho2;exact hall) (mem_ready.1 hr).1
     · rw[getD_set_ne false hjk] at hk;exact hno k hk
    refine wpOp_mono (fun a' w' h3=> ?_) h2
    have hSj:S ((listed.setIfInBounds j true).setIfInBounds i true) w':=by
     rw[Array.setIfInBounds_comm _ _ hji];exact h3.2.1
    refine⟨hS2 _ _ hSj,ih (listed.setIfInBounds j true) a' w' hfree' (ready_mono hr (Ne.symm hji)) (DT hclo hj) hno' h3.1 (hS1 _ _ hno' (hS2 _ _ hSj)) hSj ?_⟩
    rw[Array.setIfInBounds_comm _ _ hji]
    exact h3.2.2
def Sp(ops:Array Oper)(pts:List Pt)(listed:Array Bool)(w:World):Prop:=
 ∀q∈pts,w.cell? q.2.1=some q.2.2∨ ∃k,listed.getD k false=true∧Dt ops k q.1=true
theorem Do{l:Array Bool}{i:Nat}(h:i<l.size):(l.setIfInBounds i true).getD i false=true:=by simp[h]
theorem Fu{k j:Nat}{o:Oper}(ho:ops[k]? =some o)(hf:FP o.op=false)(h:Jt ops k j=true):Dt ops k j=true:=by
 unfold Dt
 rw[ho]
 dsimp only
 rw[h,hf]
 rfl
theorem E4{i fuel:Nat}{listed:Array Bool}{pts:List Pt}{t:Tr}{a:Act}{w:World}(hil:i<listed.size)(ha:Cp ops i=true)
 (ih: ∀a' w',RW P ops Q t (CK ops i pts) a' w'→Sp ops (CK ops i pts) (listed.setIfInBounds i true) w'→FQ P .any ops Q (Sp ops (CK ops i pts)) fuel (listed.setIfInBounds i true) a' w')
 (h:VB P ops Q i pts (RW P ops Q t) a w):
  wpOp P ops Q i (fun a' w'=>Sp ops pts (listed.setIfInBounds i true) w'∧FQ P .any ops Q (Sp ops pts) fuel (listed.setIfInBounds i true) a' w') a w:=by
 unfold Cp at ha
 cases ho:ops[i]? with
 |none=>simp[ho] at ha
 |some o=>
  simp only[ho,Bool.not_eq_true'] at ha
  have up: ∀l w',l.getD i false=true→Sp ops (CK ops i pts) l w'→Sp ops pts l w':=fun l w' hl hs q hq=>by
   cases he:Jt ops i q.1 with
   |true=>exact .inr ⟨i,hl,Fu ho ha he⟩
   |false=>exact hs q (List.mem_filter.2 ⟨hq,by simp[he]⟩)
  refine wpOp_mono (fun a' w' h'=> ?_) h
  have hs:Sp ops (CK ops i pts) (listed.setIfInBounds i true) w':=fun q hq=> .inl (h'.1 q hq)
  refine⟨up _ _ (Do hil) hs,F3 (fun l=>l.getD i false=true) (fun l j hl=>getD_set_true hl) (fun l w hl=>up l w hl) fuel _ a' w' (Do hil) (ih a' w' h'.2 hs)⟩
theorem Rc(hsel:Region.noSelect ops=true)(hQ: ∀c a d v w,Q (.panic c) (a.put d v) w→Q (.panic c) a w): ∀(t:Tr) (fuel:Nat) (listed:Array Bool) (pts:List Pt) (a:Act) (w:World),listed.size=ops.size→
  Be ops fuel listed t=true→bZ ops listed→RW P ops Q t pts a w→Sp ops pts listed w→FQ P .any ops Q (Sp ops pts) fuel listed a w:=by
 intro t
 have lt: ∀ {i:Nat} {listed:Array Bool},listed.size=ops.size→Cp ops i=true→i<listed.size:=by
  intro i listed hl h
  unfold Cp at h
  cases ho:ops[i]? with
  |none=>simp[ho] at h
  |some o=>rw[hl];exact(Array.getElem?_eq_some_iff.1 ho).1
 induction t with
 |nil=>
  intro fuel listed pts a w _ hc _ h hs
  have hr:Region.ready .any ops listed= []:=by
   cases fuel<;>simpa [Be] using hc
  cases fuel with
  |zero=>exact⟨hr,h⟩
  |succ f=>exact⟨fun _=>h,by rw[hr];simp⟩
 |fl i t ih=>
  intro fuel listed pts a w hl hc hclo h hs
  cases fuel with
  |zero=>simp[Be] at hc
  |succ f=>
   obtain⟨o,v,ls,ho,hls,hy,hcell,hrest⟩:=h
   simp only[Be,ho,Bool.and_eq_true] at hc
   obtain⟨⟨⟨hf,hfree⟩,hr⟩,hc⟩:=hc
   have hr':i∈Region.ready .any ops listed:=by simpa using hr
   have hfi: ∀k,Dt ops i k=false:=fun k=>by simp[Dt,ho,hf]
   have S2: ∀(l:Array Bool) w',Sp ops (ls++pts) (l.setIfInBounds i true) w'→Sp ops (ls++pts) l w':=fun l w' hs q hq=>by
    rcases hs q hq with h1|⟨k,hk,he⟩
    · exact .inl h1
    · by_cases hik:i=k
      · subst hik;rw[hfi] at he;cases he
      · rw[getD_set_ne false hik] at hk;exact .inr ⟨k,hk,he⟩
   have hno': ∀k,listed.getD k false=true→Dt ops k i=false:=fun k hk=>HJ hclo (fun o2 ho2=>hclo k o2 ho2 hk) (mem_ready.1 hr').1
   have hsw:Sp ops (ls++pts) (listed.setIfInBounds i true) w:=fun q hq=>by
    rcases List.mem_append.1 hq with h1|h1
    · exact .inl (hcell q h1)
    · rcases hs q h1 with h2|⟨k,hk,he⟩
      · exact .inl h2
      · exact .inr ⟨k,getD_set_true hk,he⟩
   have h1:=ih f (listed.setIfInBounds i true) (ls++pts) (a.put o.dst v) w (by simpa using hl) hc (DT hclo hr') hrest hsw
   have h2:=NA (S:=Sp ops (ls++pts)) (p:=fun w'=>BV w' ls) ho (Region.noSelect_spec hsel) (fun c a w hq=>hQ c a _ _ w hq)
    (fun l w' hk hs q hq=>by
     rcases hs q (List.mem_append_left _ hq) with h1|⟨k,hk1,he⟩
     · exact h1
     · rw[hls q hq,hk k hk1] at he;cases he) S2
    f listed a w (Region.free_spec ho hfree) hr' hclo hno' hy hcell hsw h1
   exact F3 (fun _=>True) (fun _ _ _=>trivial) (fun l w' _ hs q hq=>hs q (List.mem_append_right _ hq)) _ _ _ _ trivial h2
 |an i t ih=>
  intro fuel listed pts a w hl hc hclo h hs
  cases fuel with
  |zero=>simp[Be] at hc
  |succ f=>
   simp only[Be,Bool.and_eq_true,beq_iff_eq] at hc
   obtain⟨⟨hr,ha⟩,hc⟩:=hc
   refine⟨fun h0=>(by rw[hr] at h0;cases h0),fun j hj=> ?_⟩
   rw[hr] at hj
   simp only[List.mem_singleton] at hj
   subst hj
   exact E4 (lt hl ha) ha (fun a' w'=>ih f _ _ a' w' (by simpa using hl) hc (DT hclo (by rw[hr];exact List.mem_singleton_self _))) h
 |an2 i t j u ih1 ih2=>
  intro fuel listed pts a w hl hc hclo h hs
  cases fuel with
  |zero=>simp[Be] at hc
  |succ f=>
   simp only[Be,Bool.and_eq_true,beq_iff_eq] at hc
   obtain⟨⟨⟨⟨hr,ha⟩,hb⟩,hc1⟩,hc2⟩:=hc
   refine⟨fun h0=>(by rw[hr] at h0;cases h0),fun k hk=> ?_⟩
   rw[hr] at hk
   simp only[List.mem_cons,List.not_mem_nil,or_false] at hk
   rcases hk with rfl |rfl
   · exact E4 (lt hl ha) ha (fun a' w'=>ih1 f _ _ a' w' (by simpa using hl) hc1 (DT hclo (by rw[hr];simp))) h.1
   · exact E4 (lt hl hb) hb (fun a' w'=>ih2 f _ _ a' w' (by simpa using hl) hc2 (DT hclo (by rw[hr];simp))) h.2
 |an3 i t j u k x ih1 ih2 ih3=>
  intro fuel listed pts a w hl hc hclo h hs
  cases fuel with
  |zero=>simp[Be] at hc
  |succ f=>
   simp only[Be,Bool.and_eq_true,beq_iff_eq] at hc
   obtain⟨⟨⟨⟨⟨⟨hr,ha⟩,hb⟩,hd⟩,hc1⟩,hc2⟩,hc3⟩:=hc
   refine⟨fun h0=>(by rw[hr] at h0;cases h0),fun m hm=> ?_⟩
   rw[hr] at hm
   simp only[List.mem_cons,List.not_mem_nil,or_false] at hm
   rcases hm with rfl |rfl |rfl
   · exact E4 (lt hl ha) ha (fun a' w'=>ih1 f _ _ a' w' (by simpa using hl) hc1 (DT hclo (by rw[hr];simp))) h.1
   · exact E4 (lt hl hb) hb (fun a' w'=>ih2 f _ _ a' w' (by simpa using hl) hc2 (DT hclo (by rw[hr];simp))) h.2.1
   · exact E4 (lt hl hd) hd (fun a' w'=>ih3 f _ _ a' w' (by simpa using hl) hc3 (DT hclo (by rw[hr];simp))) h.2.2
theorem PB{m:Nat}:bZ ops (Array.replicate m false):=fun k _ _ hk=>by
 simp only[Array.getD_eq_getD_getElem?,Array.getElem?_replicate] at hk
 split at hk<;>cases hk
theorem Re{a:Act}{w:World}(t:Tr)(hsel:Region.noSelect ops=true)(hc:Be ops ops.size (Array.replicate ops.size false) t=true)
 (hQ: ∀c a d v w,Q (.panic c) (a.put d v) w→Q (.panic c) a w)(h:RW P ops Q t [] a w):wpAny P .any ops Q ops.size (Array.replicate ops.size false) a w:=
 Ju _ _ _ _ (Rc hsel hQ t _ _ [] a _ (by simp) hc PB h (fun q hq=>by cases hq))
end
end Go.Proofs.YtcgkoffnknpgjaaGreatDoor
