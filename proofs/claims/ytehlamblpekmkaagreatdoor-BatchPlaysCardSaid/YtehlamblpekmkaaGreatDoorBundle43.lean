/-
  Releasing in batches (chapter 34), as plain functions of a table and a world. No program in sight.
-/
import Derived.Test.YtehlamblpekmkaaGreatDoorBundle31
import Derived.Test.YtehlamblpekmkaaGreatDoorHq
import Derived.Test.YtehlamblpekmkaaGreatDoorBundle35
import Derived.Test.YtehlamblpekmkaaGreatDoorExa
import Derived.Sort.LotA
import Derived.Test.YtehlamblpekmkaaGreatDoorBundle41
import Derived.Test.YtehlamblpekmkaaGreatDoorBundle40
import Derived.Test.YtehlamblpekmkaaGreatDoorRfa
namespace Go.Proofs.YtehlamblpekmkaaGreatDoor
open Tryz
set_option maxHeartbeats 4000000
section
open Go.Sort
def cmpI(a b:Int):Int:=if a<b then -1 else if b<a then 1 else 0
def nxR(S:Ts)(n:Int):Int:=(getR S n).nx
def befB(S:Ts)(a b:Int):Prop:=nxR S a<nxR S b∨(nxR S a=nxR S b∧a<b)
instance (S:Ts) (a b:Int):Decidable (befB S a b):=by unfold befB;infer_instance
def cfB(S:Ts)(a b:Int):Int:=if cmpI (nxR S a) (nxR S b)≠0 then cmpI (nxR S a) (nxR S b) else cmpI a b
theorem cfB_lt{S:Ts}{a b:Int}:cfB S a b<0↔befB S a b:=by
 unfold cfB befB cmpI
 split<;>split<;>(try split)<;>(try split)<;>omega
theorem ltB(S:Ts)(a b:Int):ltOf (cfB S) a b=decide (befB S a b):=by
 unfold ltOf
 rw[decide_eq_decide]
 exact cfB_lt
theorem swoB(S:Ts):SWO (ltOf (cfB S)) where
 irrefl x:=by rw[ltB];exact decide_eq_false (fun h=>by unfold befB at h;omega)
 trans x y z h1 h2:=by
  rw[ltB] at*
  have h3:=of_decide_eq_true h1
  have h4:=of_decide_eq_true h2
  refine decide_eq_true ?_
  unfold befB at*
  omega
 ntrans x y z h1 h2:=by
  rw[ltB] at*
  have h3:=of_decide_eq_false h1
  have h4:=of_decide_eq_false h2
  refine decide_eq_false ?_
  unfold befB at*
  omega
def insB(S:Ts)(n:Int):List Int→List Int
 | []=> [n]
 |a::l=>if befB S a n then a::insB S n l else n::a::l
def isrt(S:Ts):List Int→List Int
 | []=> []
 |a::l=>insB S a (isrt S l)
def srtB(S:Ts):List Int:=isrt S (nums S.R 2)
theorem insB_perm(S:Ts)(n:Int): ∀l,(insB S n l).Perm (n::l)
 | []=>List.Perm.refl _
 |a::l=>by
  unfold insB
  split
  · exact((insB_perm S n l).cons a).trans (List.Perm.swap n a l)
  · exact List.Perm.refl _
theorem isrt_perm(S:Ts): ∀l,(isrt S l).Perm l
 | []=>List.Perm.refl _
 |a::l=>(insB_perm S a _).trans ((isrt_perm S l).cons a)
theorem insB_le{S:Ts}{n:Int}: ∀ {l:List Int},l.Pairwise (fun a b=> ¬befB S b a)→(insB S n l).Pairwise fun a b=> ¬befB S b a
 | [],_=>List.pairwise_singleton _ _
 |a::l,h=>by
  rw[List.pairwise_cons] at h
  unfold insB
  split
  · rename_i hb
    rw[List.pairwise_cons]
    refine⟨fun x hx=> ?_,insB_le h.2⟩
    rcases List.mem_cons.1 ((insB_perm S n l).mem_iff.1 hx) with rfl |hx
    · unfold befB at hb ⊢;omega
    · exact h.1 x hx
  · rename_i hb
    rw[List.pairwise_cons]
    refine⟨fun x hx=> ?_,List.pairwise_cons.2 h⟩
    rcases List.mem_cons.1 hx with rfl |hx
    · exact hb
    · have h1:=h.1 x hx
      unfold befB at hb h1 ⊢
      omega
theorem isrt_le(S:Ts): ∀l,(isrt S l).Pairwise fun a b=> ¬befB S b a
 | []=>List.Pairwise.nil
 |_::l=>insB_le (isrt_le S l)
theorem srtB_perm(S:Ts):(srtB S).Perm (nums S.R 2):=isrt_perm S _
theorem srtB_len(S:Ts):(srtB S).length=(nums S.R 2).length:=(srtB_perm S).length_eq
theorem srtB_uniq{S:Ts}{M:List Int}(h1:M.Perm (nums S.R 2))(h2:M.Pairwise fun a b=>ltOf (cfB S) b a=false):M=srtB S:=by
 refine List.Perm.eq_of_pairwise (le:=fun a b=> ¬befB S b a) ?_ (h2.imp fun h=> ?_) (isrt_le S _) (h1.trans (srtB_perm S).symm)
 · intro a b _ _ h3 h4
   unfold befB at h3 h4
   omega
 · rw[ltB] at h
   exact of_decide_eq_false h
theorem mem_nums{R:List Rs}{st n:Int}:n∈nums R st↔ ∃(i:Nat) (r:Rs),R[i]? =some r∧r.st=st∧n=(i:Int)+1:=by
 unfold nums numsT
 simp only[List.mem_map,List.mem_filter,List.mem_range,Option.any_eq_true,beq_iff_eq]
 constructor
 · rintro⟨i,⟨_,r,h1,h2⟩,rfl⟩
   exact⟨i,r,h1,h2,rfl⟩
 · rintro⟨i,r,h1,h2,rfl⟩
   exact⟨i,⟨(List.getElem?_eq_some_iff.1 h1).1,r,h1,h2⟩,rfl⟩
theorem getR_some{S:Ts}{i:Nat}{r:Rs}(h:S.R[i]? =some r):getR S ((i:Int)+1)=r:=by
 unfold getR
 rw[if_pos om,show ((i:Int)+1-1).toNat=i by omega,h]
 rfl
theorem mem_srt{S:Ts}{n:Int}:n∈srtB S↔nE S n=0∧(getR S n).st=2:=by
 rw[(srtB_perm S).mem_iff,mem_nums]
 constructor
 · rintro⟨i,r,h1,h2,rfl⟩
   rw[getR_some h1]
   refine⟨if_pos ?_,h2⟩
   have:=(List.getElem?_eq_some_iff.1 h1).1
   omega
 · rintro⟨h1,h2⟩
   unfold nE at h1
   split at h1
   · rename_i h3
     refine⟨(n-1).toNat,getR S n,?_,h2,by omega⟩
     exact getR_at h3
   · omega
theorem nums_nd(R:List Rs)(st:Int):(nums R st).Nodup:=by
 unfold nums numsT
 refine List.Pairwise.map _ (fun a b h=> ?_) ((List.nodup_range).filter _)
 omega
theorem srt_nd(S:Ts):(srtB S).Nodup:=(srtB_perm S).nodup_iff.2 (nums_nd _ _)
def dueB(S:Ts)(now most:Int):List Int:=((srtB S).takeWhile fun n=>decide (nxR S n≤now)).take most.toNat
def dueE(now most:Int):Int:=if now<0∨1099511627776<now∨most<0 then 2 else 0
def dueL(S:Ts)(now most:Int):List Int:=if dueE now most=0 then dueB S now most else []
theorem tw_take{α:Type}{p:α→Bool}: ∀ {L:List α} {i:Nat},(∀(j:Nat) (x:α),j<i→L[j]? =some x→p x=true)→i≤L.length→(∀x,L[i]? =some x→p x=false)→L.takeWhile p=L.take i
 | [],_,_,_,_=>by simp
 |a::L,0,_,_,h=>by simp[h a rfl]
 |a::L,i+1,h1,h2,h3=>by
  have h4:=tw_take (L:=L) (i:=i) (p:=p) (fun j x hj hx=>h1 (j+1) x om (by rwa [List.getElem?_cons_succ])) (by simpa using h2) (fun x hx=>h3 x (by rwa [List.getElem?_cons_succ]))
  rw[List.takeWhile_cons,if_pos (h1 0 a om rfl),List.take_succ_cons,h4]
theorem tw_mem{α:Type}{p:α→Bool}{x:α}: ∀ {L:List α},x∈L.takeWhile p→p x=true
 | [],h=>by simp at h
 |a::L,h=>by
  rw[List.takeWhile_cons] at h
  split at h
  · rcases List.mem_cons.1 h with rfl |h
    · assumption
    · exact tw_mem h
  · cases h
theorem tw_most{α:Type}{p:α→Bool}: ∀ {L:List α} {i:Nat},(∀(j:Nat) (x:α),j<i→L[j]? =some x→p x=true)→i≤L.length→(L.takeWhile p).take i=L.take i
 | [],_,_,_=>by simp
 |a::L,0,_,_=>by simp
 |a::L,i+1,h1,h2=>by
  have h4:=tw_most (L:=L) (i:=i) (p:=p) (fun j x hj hx=>h1 (j+1) x om (by rwa [List.getElem?_cons_succ])) (by simpa using h2)
  rw[List.takeWhile_cons,if_pos (h1 0 a om rfl),List.take_succ_cons,List.take_succ_cons,h4]
theorem due_stop{S:Ts}{now most:Int}{i:Nat}(h1: ∀(j:Nat) (n:Int),j<i→(srtB S)[j]? =some n→nxR S n≤now)(h2:i≤(srtB S).length)(hm:(i:Int)≤most)(h3:(∀n,(srtB S)[i]? =some n→now<nxR S n)∨(i:Int)=most):dueB S now most=(srtB S).take i:=by
 have h1': ∀(j:Nat) (n:Int),j<i→(srtB S)[j]? =some n→decide (nxR S n≤now)=true:=fun j n hj hn=>decide_eq_true (h1 j n hj hn)
 unfold dueB
 rcases h3 with h3|h3
 · rw[tw_take h1' h2 (fun x hx=>decide_eq_false (by have:=h3 x hx;omega)),List.take_take,Nat.min_eq_right om]
 · rw[show most.toNat=i by omega]
   exact tw_most h1' h2
theorem mem_due{S:Ts}{now most n:Int}(h:n∈dueB S now most):nE S n=0∧(getR S n).st=2∧nxR S n≤now:=by
 have h1:=List.mem_of_mem_take h
 have h2:=tw_mem h1
 have h3:=mem_srt.1 ((List.takeWhile_sublist _).mem h1)
 exact⟨h3.1,h3.2,of_decide_eq_true h2⟩
theorem due_nd(S:Ts)(now most:Int):(dueB S now most).Nodup:=((srt_nd S).sublist (List.takeWhile_sublist _)).sublist (List.take_sublist _ _)
theorem due_len(S:Ts)(now:Int){most:Int}(h:0≤most):((dueB S now most).length:Int)≤most:=by
 unfold dueB
 rw[List.length_take]
 omega
theorem nums_le(R:List Rs)(st:Int):(nums R st).length≤R.length:=by
 unfold nums numsT
 rw[List.length_map]
 exact Nat.le_trans (List.length_filter_le _ _) (by rw[List.length_range];exact Nat.le_refl _)
theorem due_le(S:Ts)(now most:Int):(dueB S now most).length≤(srtB S).length:=by
 unfold dueB
 exact Nat.le_trans (List.take_sublist _ _).length_le (List.takeWhile_sublist _).length_le
def wtN(base cap:Int):Nat→Int
 |0=>base
 |k+1=>min (2*wtN base cap k) cap
def wtB(tries base cap:Int):Int:=wtN base cap (tries-1).toNat
theorem wtN_bd{base cap:Int}(h:1≤base∧base≤cap): ∀k,1≤wtN base cap k∧wtN base cap k≤cap
 |0=>⟨h.1,h.2⟩
 |k+1=>by
  have:=wtN_bd h k
  unfold wtN
  omega
def bkE(base cap:Int):Int:=if base<1∨cap<base∨1048576<cap then 2 else 0
def triE(r:Rs)(a now wt:Int):Int:=if a=2∧(1099511627776-wt<now∨10000≤r.tr) then 17 else 0
def triR(r:Rs)(a now wt:Int):Rs:=if a=1 then {r with st:=3,nx:=0} else if a=3 then {r with st:=4,nx:=0} else {r with tr:=r.tr+1,nx:=now+wt}
structure Cf where
 bt:Int
 ba:Int
 cp:Int
def triX(r:Rs)(a now wt:Int):Rs:=if triE r a now wt=0 then triR r a now wt else rs0
theorem triR_out(r:Rs)(a now wt:Int):(triR r a now wt).out=r.out:=by
 unfold triR
 split
 · rfl
 · split<;>rfl
theorem triR_tag(r:Rs)(a now wt:Int):(triR r a now wt).tag=r.tag:=by
 unfold triR
 split
 · rfl
 · split<;>rfl
theorem triX_ok{r:Rs}{a now wt:Int}(h:triE r a now wt=0):triX r a now wt=triR r a now wt∧(triX r a now wt).out.2.2=r.out.2.2∧(triX r a now wt).tag=r.tag:=by
 have h1:triX r a now wt=triR r a now wt:=if_pos h
 rw[h1,triR_out,triR_tag]
 exact⟨rfl,rfl,rfl⟩
def cloR(r:Rs)(why now:Int):Rs:= {r with st:=2,why:=why,nx:=now}
theorem tagE_len{L:List UInt8}(h:tagE L=0):L.length≤96:=by
 unfold tagE at h
 split at h
 · omega
 · omega
theorem res_ok{r:Rs}(h:resR r=0):posP r.out.1 r.out.2.1 r.out.2.2 r.st r.why r.tr r.nx∧tagE r.tag=0:=by
 unfold resR resE at h
 split at h
 · exact⟨‹_›,h⟩
 · omega
theorem res_len{r:Rs}(h:resR r=0):r.tag.length≤96:=tagE_len (res_ok h).2
theorem wf_get{n:Nat}{S:Ts}{v:Int}(W:Wf n S)(h:nE S v=0):resR (getR S v)=0∧0≤(getR S v).out.2.2∧(getR S v).out.2.2≤4294967295∧(getR S v).tag.length≤96:=by
 unfold nE at h
 split at h
 · rename_i h3
   have hm:=List.mem_of_getElem? (getR_at h3)
   have h1:=W.res _ hm
   have h2:=(res_ok h1).1
   unfold posP at h2
   exact⟨h1,by omega,W.og _ hm,res_len h1⟩
 · omega
theorem takeB_go{α:Type}{L:List α}{i:Nat}{x:α}(h:L[i]? =some x):L.take i++ [x]=L.take (i+1):=by
 rw[List.take_add_one,h]
 rfl
theorem takeB_at{α:Type}{L:List α}{d:α}{i:Nat}(h:i<L.length):L.take i++ [L.getD i d]=L.take (i+1):=by
 have h1:L[i]? =some (L.getD i d):=by rw[List.getD_eq_getElem?_getD,List.getElem?_eq_getElem h];rfl
 exact takeB_go h1
abbrev Pw:=Ts×Wst
def wtOf(c:Cf)(r:Rs):Int:=wtB (min (r.tr+1) 64) c.ba c.cp
def stpB(c:Cf)(now:Int)(X:Pw)(n:Int):Pw:=
 (if triE (getR X.1 n) (relA X.2 (getR X.1 n).out (getR X.1 n).why) now (wtOf c (getR X.1 n))=0 then setS X.1 n (triR (getR X.1 n) (relA X.2 (getR X.1 n).out (getR X.1 n).why) now (wtOf c (getR X.1 n))) else X.1,relS X.2 (getR X.1 n).out (getR X.1 n).why)
def attB(now:Int)(X:Pw)(n:Int):At:=⟨now,(getR X.1 n).out,(getR X.1 n).why,relA X.2 (getR X.1 n).out (getR X.1 n).why⟩
def runB(c:Cf)(now:Int)(X:Pw)(l:List Int):Pw:=l.foldl (stpB c now) X
def stB(c:Cf)(now:Int)(X:Pw)(l:List Int)(i:Nat):Pw:=runB c now X (l.take i)
def atsB(c:Cf)(now:Int)(X:Pw)(l:List Int):List At:=(List.range l.length).map fun i=>attB now (stB c now X l i) (l.getD i 0)
theorem stB_succ{c:Cf}{now:Int}{X:Pw}{l:List Int}{i:Nat}{n:Int}(h:l[i]? =some n):stB c now X l (i+1)=stpB c now (stB c now X l i) n:=by
 unfold stB runB
 rw[List.take_add_one,h,List.foldl_append]
 rfl
theorem stB_end(c:Cf)(now:Int)(X:Pw)(l:List Int):stB c now X l l.length=runB c now X l:=by
 unfold stB
 rw[List.take_length]
theorem ats_at{c:Cf}{now:Int}{X:Pw}{l:List Int}{i:Nat}{n:Int}(h:l[i]? =some n):(atsB c now X l)[i]? =some (attB now (stB c now X l i) n):=by
 have hl:=(List.getElem?_eq_some_iff.1 h).1
 unfold atsB
 rw[List.getElem?_map,List.getElem?_range hl]
 show some (attB now (stB c now X l i) (l.getD i 0))=_
 rw[List.getD_eq_getElem?_getD,h]
 rfl
theorem ats_len(c:Cf)(now:Int)(X:Pw)(l:List Int):(atsB c now X l).length=l.length:=by
 unfold atsB
 rw[List.length_map,List.length_range]
def at0:At:=⟨0,(0,0,0),0,0⟩
abbrev vAt(a:At):Value:= .agg #[.int .i64 a.at_,.int .i64 a.out.1,.int .i64 a.out.2.1,.int .u32 a.out.2.2,.int .i64 a.why,.int .i64 a.ans]
theorem relA_bd{S:Wst}{o:Ky}{y:Int}(hW:WOk S)(h:relE S o y=0):1≤relA S o y∧relA S o y≤3:=by
 unfold relA
 rw[if_pos h]
 exact headD_bd hW.qb
def RunOk(c:Cf)(now:Int)(X:Pw)(l:List Int):Prop:= ∀(i:Nat) (n:Int),l[i]? =some n→
 nE (stB c now X l i).1 n=0∧(getR (stB c now X l i).1 n).st=2∧relE (stB c now X l i).2 (getR (stB c now X l i).1 n).out (getR (stB c now X l i).1 n).why=0
def cfgE(c:Cf):Int:=if c.bt<1∨64<c.bt∨bkE c.ba c.cp≠0 then 2 else 0
def rnS(c:Cf)(X:Pw):Pw:=if cfgE c=0 then runB c X.2.now X (dueB X.1 X.2.now c.bt) else X
def rnL(c:Cf)(X:Pw):List At:=if cfgE c=0 then atsB c X.2.now X (dueB X.1 X.2.now c.bt) else []
theorem rel_now(S:Wst)(o:Ky)(y:Int):(relS S o y).now=S.now:=by
 unfold relS Wst.put
 split
 · rfl
 · split
   · split
     · rfl
     · split<;>rfl
   · rfl
theorem stB_now{c:Cf}{now:Int}{l:List Int}: ∀ {X:Pw} {i:Nat},(stB c now X l i).2.now=X.2.now:=by
 intro X i
 unfold stB runB
 generalize l.take i=m
 induction m generalizing X with
 |nil=>rfl
 |cons a m ih=>rw[List.foldl_cons,ih];exact rel_now _ _ _
end
theorem nan_int(za:Int):HQ 187 [iV za] [] (.bool false) []:=by
 refine hiS func187 ntmps187 fun g w0 R h0=>go [.v 1 2 (qnF za za)] ?_
 exact enR _ [] h0
theorem cmp_int(za zb:Int):HQ 109 [iV za,iV zb] [] (iV (cmpI za zb)) []:=by
 refine hiS func109 ntmps109 fun g w0 R h0=>g0<|cl0 call187 (nan_int za) h0 fun _ h11=>g0<|cl0 call187 (nan_int zb) h11 fun _ h13=>go [.s 9 2] ?_
 by_cases c14:za<zb
 ·
  refine go [.v 9 2 (oT _ c14)] ?_
  exact en (iV (-1)) [] ⟨_,_,rfl,⟨by unfold cmpI;rw[if_pos om],rfl⟩,h13⟩
 refine go [.v 9 2 (oF _ c14),.s 11 2] ?_
 by_cases c15:za>zb
 ·
  refine go [.v 11 2 (oT _ c15)] ?_
  exact en (iV 1) [] ⟨_,_,rfl,⟨by unfold cmpI;rw[if_neg om,if_pos om],rfl⟩,h13⟩
 refine go [.v 11 2 (oF _ c15)] ?_
 exact en (iV 0) [] ⟨_,_,rfl,⟨by unfold cmpI;rw[if_neg om,if_neg om],rfl⟩,h13⟩
theorem nan_int64(za:Int):HQ 186 [iV za] [] (.bool false) []:=by
 refine hiS func186 ntmps186 fun g w0 R h0=>go [.v 1 2 (qnF za za)] ?_
 exact enR _ [] h0
theorem cmp_int64(za zb:Int):HQ 108 [iV za,iV zb] [] (iV (cmpI za zb)) []:=by
 refine hiS func108 ntmps108 fun g w0 R h0=>g0<|cl0 call186 (nan_int64 za) h0 fun _ h11=>g0<|cl0 call186 (nan_int64 zb) h11 fun _ h13=>go [.s 9 2] ?_
 by_cases c14:za<zb
 ·
  refine go [.v 9 2 (oT _ c14)] ?_
  exact en (iV (-1)) [] ⟨_,_,rfl,⟨by unfold cmpI;rw[if_pos om],rfl⟩,h13⟩
 refine go [.v 9 2 (oF _ c14),.s 11 2] ?_
 by_cases c15:za>zb
 ·
  refine go [.v 11 2 (oT _ c15)] ?_
  exact en (iV 1) [] ⟨_,_,rfl,⟨by unfold cmpI;rw[if_neg om,if_pos om],rfl⟩,h13⟩
 refine go [.v 11 2 (oF _ c15)] ?_
 exact en (iV 0) [] ⟨_,_,rfl,⟨by unfold cmpI;rw[if_neg om,if_neg om],rfl⟩,h13⟩
theorem or_ht(r:Nat)(za zb:Int):HQ 107 [.slice (some ⟨r,0,none⟩) 2 2] [Cl r [iV za,iV zb] 3] (iV (if za≠0 then za else zb)) [Cl r [iV za,iV zb] 3]:=by
 refine hiS func107 ntmps107 fun g w0 R h0=>go [.v 2 1 (oJ .i64 (2:Int) 2)]<|unS 2<|go [.s 4 0]<|lwP (pV r) (liS (Ot 6) (Ot 8) r 0 0 2 2 underlying37 1 0 0)<|go [rd 4 1 0 0 1 h0,.s 5 2] ?_
 by_cases c10:za=0
 ·
  refine go [.v 5 2 (qnF za 0)]<|unN<|go [.s 4 0]<|lwP (.pointer (some ⟨r,1,none⟩)) (liS (Ot 6) (Ot 8) r 0 1 2 2 underlying37 1 1 1)<|go [rd 4 1 0 1 1 h0,.s 5 2] ?_
  by_cases c11:zb=0
  ·
   refine go [.v 5 2 (qnF zb 0)]<|unN<|g0<|up<|g0 ?_
   exact en (iV 0) [] ⟨_,_,rfl,⟨by rw[show (if za≠0 then za else zb)=0 from by split<;>omega],rfl⟩,h0⟩
  refine go [.v 5 2 (qnT zb 0)]<|up<|g0 ?_
  exact en (iV zb) [] ⟨_,_,rfl,⟨by rw[show (if za≠0 then za else zb)=zb from by split<;>omega],rfl⟩,h0⟩
 refine go [.v 5 2 (qnT za 0)]<|up<|g0 ?_
 exact en (iV za) [] ⟨_,_,rfl,⟨by rw[show (if za≠0 then za else zb)=za from by split<;>omega],rfl⟩,h0⟩
theorem ovalid_ht(W:World)(b ts tm tc:Nat)(p:Option Addr)(S:Ts)(q0_:W.cell? ⟨b,0,none⟩=some (.pointer (some ⟨ts,0,none⟩)))(q1_:W.cell? ⟨b,1,none⟩=some (.map (some tm)))(q2_:W.cell? ⟨b,2,none⟩=some (.slice p S.R.length tc))(hR:Rd W p S.R.length (fl eRs S.R))(hrl:S.R.length≤2000):HQ 121 [pV b] [Old W] (.bool true) [Old W]:=by
 refine hiS func121 ntmps121 fun g w0 R h0=>go [.r 1 6 b 1 [.map (some tm)] ⟨sat_cellOld h0 0 rfl q1_,trivial⟩] ?_
 exact enR _ [] h0
theorem ocheck_ok(W:World)(b ts tm tc:Nat)(p:Option Addr)(S:Ts)(q0_:W.cell? ⟨b,0,none⟩=some (.pointer (some ⟨ts,0,none⟩)))(q1_:W.cell? ⟨b,1,none⟩=some (.map (some tm)))(q2_:W.cell? ⟨b,2,none⟩=some (.slice p S.R.length tc))(hR:Rd W p S.R.length (fl eRs S.R))(hrl:S.R.length≤2000)(vn:Int)(h:1≤vn∧vn≤(S.R.length:Int)):HQ 110 [pV b,iV vn] [Old W] (iV 0) [Old W]:=by
 refine hiS func110 ntmps110 fun g w0 R h0=>g0<|cl1 call121 (ovalid_ht W b ts tm tc p S q0_ q1_ q2_ hR hrl) h0 fun _ h11=>go [.v 3 1 (oF (vn<1)),.r 3 7 b 2 [.slice p S.R.length tc] ⟨sat_cellOld h11 0 rfl q2_,trivial⟩,.v 3 9 (oF (vn>(S.R.length:Int)))] ?_
 exact enR _ [] h11
theorem ocheck_no(W:World)(b ts tm tc:Nat)(p:Option Addr)(S:Ts)(q0_:W.cell? ⟨b,0,none⟩=some (.pointer (some ⟨ts,0,none⟩)))(q1_:W.cell? ⟨b,1,none⟩=some (.map (some tm)))(q2_:W.cell? ⟨b,2,none⟩=some (.slice p S.R.length tc))(hR:Rd W p S.R.length (fl eRs S.R))(hrl:S.R.length≤2000)(vn:Int)(h:vn<1∨(S.R.length:Int)<vn):HQ 110 [pV b,iV vn] [Old W] (iV 3) [Old W]:=by
 refine hiS func110 ntmps110 fun g w0 R h0=>g0<|cl1 call121 (ovalid_ht W b ts tm tc p S q0_ q1_ q2_ hR hrl) h0 fun _ h11=>go [.s 3 1] ?_
 by_cases c12:vn<1
 ·
  refine go [.v 3 1 (oT _ c12)] ?_
  exact enR _ [] h11
 refine go [.v 3 1 (oF _ c12),.r 3 7 b 2 [.slice p S.R.length tc] ⟨sat_cellOld h11 0 rfl q2_,trivial⟩,.v 3 9 (oT (vn>(S.R.length:Int)))] ?_
 exact enR _ [] h11
theorem oget_no(W:World)(b ts tm tc:Nat)(p:Option Addr)(S:Ts)(q0_:W.cell? ⟨b,0,none⟩=some (.pointer (some ⟨ts,0,none⟩)))(q1_:W.cell? ⟨b,1,none⟩=some (.map (some tm)))(q2_:W.cell? ⟨b,2,none⟩=some (.slice p S.R.length tc))(hR:Rd W p S.R.length (fl eRs S.R))(hrl:S.R.length≤2000)(vn:Int)(h:vn<1∨(S.R.length:Int)<vn):HQ 45 [pV b,iV vn] [Old W] (.tuple #[.agg #[iV 0,iV 0,uV 0,iV 0,iV 0,iV 0,iV 0,.string (St [])],iV 3]) [Old W]:=by
 refine hiS func45 ntmps45 fun g w0 R h0=>g0<|nP 82 [iV 0,iV 0,uV 0,iV 0,iV 0,iV 0,iV 0,.string (St [])] h0 (fun _ _ h12=> ?_)
 have h13:=h12.a.t3
 refine g0<|cl1 call110 (ocheck_no W b ts tm tc p S q0_ q1_ q2_ hR hrl vn om) h13 fun _ h15=> ?_
 have h16:=h15.a.t3
 refine g0<|sA [iV 0,iV 0,uV 0,iV 0,iV 0,iV 0,iV 0,.string (St [])] h16 fun _ h18=>g0 ?_
 exact enR _ [rd 0 0 0 0 8 h18] (tk2 (sf1 (sf2 h18.a.t3)))
theorem oget_ok(W:World)(b ts tm tc:Nat)(p:Option Addr)(S:Ts)(q0_:W.cell? ⟨b,0,none⟩=some (.pointer (some ⟨ts,0,none⟩)))(q1_:W.cell? ⟨b,1,none⟩=some (.map (some tm)))(q2_:W.cell? ⟨b,2,none⟩=some (.slice p S.R.length tc))(hR:Rd W p S.R.length (fl eRs S.R))(hrl:S.R.length≤2000)(vn:Int)(q:Nat)(r:Rs)(hr:S.R[q]? =some r)(hv:vn=(q:Int)+1):HQ 45 [pV b,iV vn] [Old W] (.tuple #[.agg #[iV r.out.1,iV r.out.2.1,uV r.out.2.2,iV r.st,iV r.why,iV r.tr,iV r.nx,.string (St r.tag)],iV 0]) [Old W]:=by
 refine hiS func45 ntmps45 fun g w0 R h0=> ?_
 have hq_:=(List.getElem?_eq_some_iff.1 hr).1
 refine g0<|nP 82 [iV 0,iV 0,uV 0,iV 0,iV 0,iV 0,iV 0,.string (St [])] h0 (fun _ _ h12=> ?_)
 have h13:=h12.a.t3
 refine g0<|cl1 call110 (ocheck_ok W b ts tm tc p S q0_ q1_ q2_ hR hrl vn om) h13 fun _ h15=> ?_
 obtain⟨b16,off18,hp17⟩:=gv_ptr (j:=0) h15 rfl (gv_old hR) om
 refine go [.r 4 3 b 2 [.slice p S.R.length tc] ⟨sat_cellOld h15 0 rfl q2_,trivial⟩,.v 4 5 (oIr (vn-1)),.s 4 6]<|lwP (.pointer (some ⟨b16,off18+q*8,none⟩)) (liP (Ot 17) (Ot 19) p b16 off18 (vn-1) S.R.length tc underlying33 8 q hp17 (off18+q*8)) ?_
 have h19:=h15.a.t3
 refine go [.r 4 7 b16 (off18+q*8) [iV r.out.1,iV r.out.2.1,uV r.out.2.2,iV r.st,iV r.why,iV r.tr,iV r.nx,.string (St r.tag)] ⟨gv_cell (j:=0) h15 rfl (gv_old hR) hp17 (fl_get eRs_ok (j:=0) (v:=iV r.out.1) hr rfl) (off18+q*8) om,gv_cell (j:=0) h15 rfl (gv_old hR) hp17 (fl_get eRs_ok (j:=1) (v:=iV r.out.2.1) hr rfl) (off18+q*8+1) om,gv_cell (j:=0) h15 rfl (gv_old hR) hp17 (fl_get eRs_ok (j:=2) (v:=uV r.out.2.2) hr rfl) (off18+q*8+2) om,gv_cell (j:=0) h15 rfl (gv_old hR) hp17 (fl_get eRs_ok (j:=3) (v:=iV r.st) hr rfl) (off18+q*8+3) om,gv_cell (j:=0) h15 rfl (gv_old hR) hp17 (fl_get eRs_ok (j:=4) (v:=iV r.why) hr rfl) (off18+q*8+4) om,gv_cell (j:=0) h15 rfl (gv_old hR) hp17 (fl_get eRs_ok (j:=5) (v:=iV r.tr) hr rfl) (off18+q*8+5) om,gv_cell (j:=0) h15 rfl (gv_old hR) hp17 (fl_get eRs_ok (j:=6) (v:=iV r.nx) hr rfl) (off18+q*8+6) om,gv_cell (j:=0) h15 rfl (gv_old hR) hp17 (fl_get eRs_ok (j:=7) (v:= .string (St r.tag)) hr rfl) (off18+q*8+7) om,trivial⟩]<|sA [iV r.out.1,iV r.out.2.1,uV r.out.2.2,iV r.st,iV r.why,iV r.tr,iV r.nx,.string (St r.tag)] h19 fun _ h21=>g0 ?_
 exact enR _ [rd 0 0 0 0 8 h21] (tk2 (sf1 (sf2 h21.a.t3)))
theorem oget_ht(W:World)(b ts tm tc:Nat)(p:Option Addr)(S:Ts)(q0_:W.cell? ⟨b,0,none⟩=some (.pointer (some ⟨ts,0,none⟩)))(q1_:W.cell? ⟨b,1,none⟩=some (.map (some tm)))(q2_:W.cell? ⟨b,2,none⟩=some (.slice p S.R.length tc))(hR:Rd W p S.R.length (fl eRs S.R))(hrl:S.R.length≤2000)(vn:Int):HQ 45 [Value.pointer (some ⟨b,0,none⟩),Value.int IntKind.i64 vn] [Old W] (Value.tuple #[Value.agg #[Value.int IntKind.i64 ((getR S vn).out.1),Value.int IntKind.i64 ((getR S vn).out.2.1),Value.int IntKind.u32 ((getR S vn).out.2.2),Value.int IntKind.i64 ((getR S vn).st),Value.int IntKind.i64 ((getR S vn).why),Value.int IntKind.i64 ((getR S vn).tr),Value.int IntKind.i64 ((getR S vn).nx),Value.string (St ((getR S vn).tag))],Value.int IntKind.i64 (nE S vn)]) [Old W]:=by
 unfold nE
 by_cases h:1≤vn∧vn≤(S.R.length:Int)
 · rw[if_pos h]
   exact oget_ok W b ts tm tc p S q0_ q1_ q2_ hR hrl vn (vn-1).toNat (getR S vn) (getR_at h) om
 · rw[if_neg h,getR_no h]
   exact oget_no W b ts tm tc p S q0_ q1_ q2_ hR hrl vn om
theorem oclo1_ht(W:World)(b ts tm tc:Nat)(p:Option Addr)(S:Ts)(q0_:W.cell? ⟨b,0,none⟩=some (.pointer (some ⟨ts,0,none⟩)))(q1_:W.cell? ⟨b,1,none⟩=some (.map (some tm)))(q2_:W.cell? ⟨b,2,none⟩=some (.slice p S.R.length tc))(hR:Rd W p S.R.length (fl eRs S.R))(hrl:S.R.length≤2000)(c1:Nat)(hc1:W.cell? ⟨c1,0,none⟩=some (.pointer (some ⟨b,0,none⟩)))(vn:Int):HQ 104 [iV vn,pV c1] [Old W] (iV (nxR S vn)) [Old W]:=by
 refine hiS func104 ntmps104 fun g w0 R h0=>go [.r 1 0 c1 0 [pV b] ⟨sat_cellOld h0 0 rfl hc1,trivial⟩]<|cl1 call45 (oget_ht W b ts tm tc p S q0_ q1_ q2_ hR hrl vn) h0 fun _ h11=>g0<|nP 82 [iV 0,iV 0,uV 0,iV 0,iV 0,iV 0,iV 0,.string (St [])] h11 (fun _ _ h14=> ?_)
 refine sA [iV ((getR S vn).out.1),iV ((getR S vn).out.2.1),uV ((getR S vn).out.2.2),iV ((getR S vn).st),iV ((getR S vn).why),iV ((getR S vn).tr),iV ((getR S vn).nx),.string (St ((getR S vn).tag))] h14 fun _ h16=>go [rd 2 1 0 6 1 h16] ?_
 exact enR (iV ((getR S vn).nx)) [] (tk2 (sf1 (sf2 h16.a.t3)))
theorem oclo2_ht(W:World)(b ts tm tc:Nat)(p:Option Addr)(S:Ts)(q0_:W.cell? ⟨b,0,none⟩=some (.pointer (some ⟨ts,0,none⟩)))(q1_:W.cell? ⟨b,1,none⟩=some (.map (some tm)))(q2_:W.cell? ⟨b,2,none⟩=some (.slice p S.R.length tc))(hR:Rd W p S.R.length (fl eRs S.R))(hrl:S.R.length≤2000)(c1:Nat)(hc1:W.cell? ⟨c1,0,none⟩=some (.pointer (some ⟨b,0,none⟩)))(c3:Nat)(hc3:W.cell? ⟨c3,0,none⟩=some (.func (Fn.func 104) #[] #[pV c1]))(za zb:Int):HQ 106 [iV za,iV zb,pV c3] [Old W] (iV (cfB S za zb)) [Old W]:=by
 refine hiS func106 ntmps106 fun g w0 R h0=>g0<|dw (fls [0,1,3,4,7,8] (Tr.an 2 (Tr.an 5 (Tr.an 6 (Tr.an 9 (Tr.an 10 (Tr.an 11 (Tr.fl 12 Tr.nil)))))))) h0 fun _ h11=>go [.r 1 0 c3 0 [.func (Fn.func 104) #[] #[pV c1]] ⟨sat_cellOld h11 0 rfl hc3,trivial⟩,.r 1 3 c3 0 [.func (Fn.func 104) #[] #[pV c1]] ⟨sat_cellOld h11 0 rfl hc3,trivial⟩]<|cw1 call104 (oclo1_ht W b ts tm tc p S q0_ q1_ q2_ hR hrl c1 hc1 za) h11 fun _ h13=>⟨kd [.r 0 3 c3 0 [.func (Fn.func 104) #[] #[pV c1]] ⟨sat_cellOld h13 0 rfl hc3,trivial⟩],?_⟩
 refine cw1 call104 (oclo1_ht W b ts tm tc p S q0_ q1_ q2_ hR hrl c1 hc1 zb) h13 fun _ h15=>⟨kd [],?_⟩
 refine cw0 call108 (cmp_int64 (nxR S za) (nxR S zb)) h15 fun _ h17=>⟨kd [],?_⟩
 refine cw0 call109 (cmp_int za zb) h17 fun _ h19=>⟨kd [],?_⟩
 refine nG (fun q_=> .slice (some ⟨q_,0,none⟩) 2 2) 3 [iV (cmpI (nxR S za) (nxR S zb)),iV (cmpI za zb)] h19 (fun r20 _ h22=>⟨kd [],?_⟩)
 refine cw1 call107 (or_ht r20 (cmpI (nxR S za) (nxR S zb)) (cmpI za zb)) h22 fun _ h24=>⟨kd [],?_⟩
 refine g0 ?_
 exact enR (iV (if (cmpI (nxR S za) (nxR S zb))≠0 then (cmpI (nxR S za) (nxR S zb)) else (cmpI za zb))) [] (tk2 (sf1 (sf2 h24.a.t3)))
end Go.Proofs.YtehlamblpekmkaaGreatDoor
