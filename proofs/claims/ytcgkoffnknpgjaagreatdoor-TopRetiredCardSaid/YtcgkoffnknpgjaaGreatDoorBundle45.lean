/-
  Releasing in batches (chapter 34), as plain functions of a table and a world. No program in sight.
-/
import Derived.Test.YtcgkoffnknpgjaaGreatDoorBundle31
import Derived.Test.YtcgkoffnknpgjaaGreatDoorHq
import Derived.Test.YtcgkoffnknpgjaaGreatDoorBundle34
import Derived.Test.YtcgkoffnknpgjaaGreatDoorExa
import Derived.Sort.LotA
import Derived.Test.YtcgkoffnknpgjaaGreatDoorBundle41
import Derived.Test.YtcgkoffnknpgjaaGreatDoorSrg
import Derived.Test.YtcgkoffnknpgjaaGreatDoorBundle39
import Derived.Test.YtcgkoffnknpgjaaGreatDoorYdr
import Derived.Test.YtcgkoffnknpgjaaGreatDoorMen
import Derived.Test.YtcgkoffnknpgjaaGreatDoorRfa
namespace Go.Proofs.YtcgkoffnknpgjaaGreatDoor
set_option linter.unusedVariables false
set_option linter.unusedSimpArgs false
open Tryz
set_option maxHeartbeats 4000000
section
open Go.Sort
def cmpI(a b:Int):Int:=if a<b then -1 else if b<a then 1 else 0
def nxR(S:Ts)(n:Int):Int:=(getR S n).nx
def befB(S:Ts)(a b:Int):Prop:=nxR S a<nxR S b∨(nxR S a=nxR S b∧a<b)
instance (S:Ts) (a b:Int):Decidable (befB S a b):=by unfold befB;infer_instance
def cfB(S:Ts)(a b:Int):Int:=if cmpI (nxR S a) (nxR S b)≠0 then cmpI (nxR S a) (nxR S b) else cmpI a b
theorem cfB_lt{S:Ts}{a b:Int}:cfB S a b<0↔befB S a b:=by
 unfold cfB befB cmpI
 split<;>split<;>(try split)<;>(try split)<;>omega
theorem ltB(S:Ts)(a b:Int):ltOf (cfB S) a b=decide (befB S a b):=by
 unfold ltOf
 rw[decide_eq_decide]
 exact cfB_lt
theorem swoB(S:Ts):SWO (ltOf (cfB S)) where
 irrefl x:=by rw[ltB];exact decide_eq_false (fun h=>by unfold befB at h;omega)
 trans x y z h1 h2:=by
  rw[ltB] at*
  have h3:=of_decide_eq_true h1
  have h4:=of_decide_eq_true h2
  refine decide_eq_true ?_
  unfold befB at*
  omega
 ntrans x y z h1 h2:=by
  rw[ltB] at*
  have h3:=of_decide_eq_false h1
  have h4:=of_decide_eq_false h2
  refine decide_eq_false ?_
  unfold befB at*
  omega
def insB(S:Ts)(n:Int):List Int→List Int
 | []=> [n]
 |a::l=>if befB S a n then a::insB S n l else n::a::l
def isrt(S:Ts):List Int→List Int
 | []=> []
 |a::l=>insB S a (isrt S l)
def srtB(S:Ts):List Int:=isrt S (nums S.R 2)
theorem insB_perm(S:Ts)(n:Int): ∀l,(insB S n l).Perm (n::l)
 | []=>List.Perm.refl _
 |a::l=>by
  unfold insB
  split
  · exact((insB_perm S n l).cons a).trans (List.Perm.swap n a l)
  · exact List.Perm.refl _
theorem isrt_perm(S:Ts): ∀l,(isrt S l).Perm l
 | []=>List.Perm.refl _
 |a::l=>(insB_perm S a _).trans ((isrt_perm S l).cons a)
theorem insB_le{S:Ts}{n:Int}: ∀ {l:List Int},l.Pairwise (fun a b=> ¬befB S b a)→(insB S n l).Pairwise fun a b=> ¬befB S b a
 | [],_=>List.pairwise_singleton _ _
 |a::l,h=>by
  rw[List.pairwise_cons] at h
  unfold insB
  split
  · rename_i hb
    rw[List.pairwise_cons]
    refine⟨fun x hx=> ?_,insB_le h.2⟩
    rcases List.mem_cons.1 ((insB_perm S n l).mem_iff.1 hx) with rfl |hx
    · unfold befB at hb ⊢;omega
    · exact h.1 x hx
  · rename_i hb
    rw[List.pairwise_cons]
    refine⟨fun x hx=> ?_,List.pairwise_cons.2 h⟩
    rcases List.mem_cons.1 hx with rfl |hx
    · exact hb
    · have h1:=h.1 x hx
      unfold befB at hb h1 ⊢
      omega
theorem isrt_le(S:Ts): ∀l,(isrt S l).Pairwise fun a b=> ¬befB S b a
 | []=>List.Pairwise.nil
 |_::l=>insB_le (isrt_le S l)
theorem srtB_perm(S:Ts):(srtB S).Perm (nums S.R 2):=isrt_perm S _
theorem srtB_len(S:Ts):(srtB S).length=(nums S.R 2).length:=(srtB_perm S).length_eq
theorem srtB_uniq{S:Ts}{M:List Int}(h1:M.Perm (nums S.R 2))(h2:M.Pairwise fun a b=>ltOf (cfB S) b a=false):M=srtB S:=by
 refine List.Perm.eq_of_pairwise (le:=fun a b=> ¬befB S b a) ?_ (h2.imp fun h=> ?_) (isrt_le S _) (h1.trans (srtB_perm S).symm)
 · intro a b _ _ h3 h4
   unfold befB at h3 h4
   omega
 · rw[ltB] at h
   exact of_decide_eq_false h
theorem mem_nums{R:List Rs}{st n:Int}:n∈nums R st↔ ∃(i:Nat) (r:Rs),R[i]? =some r∧r.st=st∧n=(i:Int)+1:=by
 unfold nums numsT
 simp only[List.mem_map,List.mem_filter,List.mem_range,Option.any_eq_true,beq_iff_eq]
 constructor
 · rintro⟨i,⟨_,r,h1,h2⟩,rfl⟩
   exact⟨i,r,h1,h2,rfl⟩
 · rintro⟨i,r,h1,h2,rfl⟩
   exact⟨i,⟨(List.getElem?_eq_some_iff.1 h1).1,r,h1,h2⟩,rfl⟩
theorem getR_some{S:Ts}{i:Nat}{r:Rs}(h:S.R[i]? =some r):getR S ((i:Int)+1)=r:=by
 unfold getR
 rw[if_pos om,show ((i:Int)+1-1).toNat=i by omega,h]
 rfl
theorem mem_srt{S:Ts}{n:Int}:n∈srtB S↔nE S n=0∧(getR S n).st=2:=by
 rw[(srtB_perm S).mem_iff,mem_nums]
 constructor
 · rintro⟨i,r,h1,h2,rfl⟩
   rw[getR_some h1]
   refine⟨if_pos ?_,h2⟩
   have:=(List.getElem?_eq_some_iff.1 h1).1
   omega
 · rintro⟨h1,h2⟩
   unfold nE at h1
   split at h1
   · rename_i h3
     refine⟨(n-1).toNat,getR S n,?_,h2,by omega⟩
     exact getR_at h3
   · omega
def dueB(S:Ts)(now most:Int):List Int:=((srtB S).takeWhile fun n=>decide (nxR S n≤now)).take most.toNat
theorem tw_take{α:Type}{p:α→Bool}: ∀ {L:List α} {i:Nat},(∀(j:Nat) (x:α),j<i→L[j]? =some x→p x=true)→i≤L.length→(∀x,L[i]? =some x→p x=false)→L.takeWhile p=L.take i
 | [],_,_,_,_=>by simp
 |a::L,0,_,_,h=>by simp[h a rfl]
 |a::L,i+1,h1,h2,h3=>by
  have h4:=tw_take (L:=L) (i:=i) (p:=p) (fun j x hj hx=>h1 (j+1) x om (by rwa [List.getElem?_cons_succ])) (by simpa using h2) (fun x hx=>h3 x (by rwa [List.getElem?_cons_succ]))
  rw[List.takeWhile_cons,if_pos (h1 0 a om rfl),List.take_succ_cons,h4]
theorem tw_most{α:Type}{p:α→Bool}: ∀ {L:List α} {i:Nat},(∀(j:Nat) (x:α),j<i→L[j]? =some x→p x=true)→i≤L.length→(L.takeWhile p).take i=L.take i
 | [],_,_,_=>by simp
 |a::L,0,_,_=>by simp
 |a::L,i+1,h1,h2=>by
  have h4:=tw_most (L:=L) (i:=i) (p:=p) (fun j x hj hx=>h1 (j+1) x om (by rwa [List.getElem?_cons_succ])) (by simpa using h2)
  rw[List.takeWhile_cons,if_pos (h1 0 a om rfl),List.take_succ_cons,List.take_succ_cons,h4]
theorem due_stop{S:Ts}{now most:Int}{i:Nat}(h1: ∀(j:Nat) (n:Int),j<i→(srtB S)[j]? =some n→nxR S n≤now)(h2:i≤(srtB S).length)(hm:(i:Int)≤most)(h3:(∀n,(srtB S)[i]? =some n→now<nxR S n)∨(i:Int)=most):dueB S now most=(srtB S).take i:=by
 have h1': ∀(j:Nat) (n:Int),j<i→(srtB S)[j]? =some n→decide (nxR S n≤now)=true:=fun j n hj hn=>decide_eq_true (h1 j n hj hn)
 unfold dueB
 rcases h3 with h3|h3
 · rw[tw_take h1' h2 (fun x hx=>decide_eq_false (by have:=h3 x hx;omega)),List.take_take,Nat.min_eq_right om]
 · rw[show most.toNat=i by omega]
   exact tw_most h1' h2
theorem nums_le(R:List Rs)(st:Int):(nums R st).length≤R.length:=by
 unfold nums numsT
 rw[List.length_map]
 exact Nat.le_trans (List.length_filter_le _ _) (by rw[List.length_range];exact Nat.le_refl _)
theorem due_le(S:Ts)(now most:Int):(dueB S now most).length≤(srtB S).length:=by
 unfold dueB
 exact Nat.le_trans (List.take_sublist _ _).length_le (List.takeWhile_sublist _).length_le
def wtN(base cap:Int):Nat→Int
 |0=>base
 |k+1=>min (2*wtN base cap k) cap
def wtB(tries base cap:Int):Int:=wtN base cap (tries-1).toNat
theorem wtN_bd{base cap:Int}(h:1≤base∧base≤cap): ∀k,1≤wtN base cap k∧wtN base cap k≤cap
 |0=>⟨h.1,h.2⟩
 |k+1=>by
  have:=wtN_bd h k
  unfold wtN
  omega
def bkE(base cap:Int):Int:=if base<1∨cap<base∨1048576<cap then 2 else 0
def triE(r:Rs)(a now wt:Int):Int:=if a=2∧(1099511627776-wt<now∨10000≤r.tr) then 17 else 0
def triR(r:Rs)(a now wt:Int):Rs:=if a=1 then {r with st:=3,nx:=0} else if a=3 then {r with st:=4,nx:=0} else {r with tr:=r.tr+1,nx:=now+wt}
structure Cf where
 bt:Int
 ba:Int
 cp:Int
def triX(r:Rs)(a now wt:Int):Rs:=if triE r a now wt=0 then triR r a now wt else rs0
theorem triR_out(r:Rs)(a now wt:Int):(triR r a now wt).out=r.out:=by
 unfold triR
 split
 · rfl
 · split<;>rfl
theorem triR_tag(r:Rs)(a now wt:Int):(triR r a now wt).tag=r.tag:=by
 unfold triR
 split
 · rfl
 · split<;>rfl
theorem triX_ok{r:Rs}{a now wt:Int}(h:triE r a now wt=0):triX r a now wt=triR r a now wt∧(triX r a now wt).out.2.2=r.out.2.2∧(triX r a now wt).tag=r.tag:=by
 have h1:triX r a now wt=triR r a now wt:=if_pos h
 rw[h1,triR_out,triR_tag]
 exact⟨rfl,rfl,rfl⟩
theorem tagE_len{L:List UInt8}(h:tagE L=0):L.length≤96:=by
 unfold tagE at h
 split at h
 · omega
 · omega
theorem res_ok{r:Rs}(h:resR r=0):posP r.out.1 r.out.2.1 r.out.2.2 r.st r.why r.tr r.nx∧tagE r.tag=0:=by
 unfold resR resE at h
 split at h
 · exact⟨‹_›,h⟩
 · omega
theorem res_len{r:Rs}(h:resR r=0):r.tag.length≤96:=tagE_len (res_ok h).2
theorem wf_get{n:Nat}{S:Ts}{v:Int}(W:Wf n S)(h:nE S v=0):resR (getR S v)=0∧0≤(getR S v).out.2.2∧(getR S v).out.2.2≤4294967295∧(getR S v).tag.length≤96:=by
 unfold nE at h
 split at h
 · rename_i h3
   have hm:=List.mem_of_getElem? (getR_at h3)
   have h1:=W.res _ hm
   have h2:=(res_ok h1).1
   unfold posP at h2
   exact⟨h1,by omega,W.og _ hm,res_len h1⟩
 · omega
theorem takeB_go{α:Type}{L:List α}{i:Nat}{x:α}(h:L[i]? =some x):L.take i++ [x]=L.take (i+1):=by
 rw[List.take_add_one,h]
 rfl
theorem takeB_at{α:Type}{L:List α}{d:α}{i:Nat}(h:i<L.length):L.take i++ [L.getD i d]=L.take (i+1):=by
 have h1:L[i]? =some (L.getD i d):=by rw[List.getD_eq_getElem?_getD,List.getElem?_eq_getElem h];rfl
 exact takeB_go h1
abbrev Pw:=Ts×Wst
def wtOf(c:Cf)(r:Rs):Int:=wtB (min (r.tr+1) 64) c.ba c.cp
def stpB(c:Cf)(now:Int)(X:Pw)(n:Int):Pw:=
 (if triE (getR X.1 n) (relA X.2 (getR X.1 n).out (getR X.1 n).why) now (wtOf c (getR X.1 n))=0 then setS X.1 n (triR (getR X.1 n) (relA X.2 (getR X.1 n).out (getR X.1 n).why) now (wtOf c (getR X.1 n))) else X.1,relS X.2 (getR X.1 n).out (getR X.1 n).why)
def attB(now:Int)(X:Pw)(n:Int):At:=⟨now,(getR X.1 n).out,(getR X.1 n).why,relA X.2 (getR X.1 n).out (getR X.1 n).why⟩
def runB(c:Cf)(now:Int)(X:Pw)(l:List Int):Pw:=l.foldl (stpB c now) X
def stB(c:Cf)(now:Int)(X:Pw)(l:List Int)(i:Nat):Pw:=runB c now X (l.take i)
def atsB(c:Cf)(now:Int)(X:Pw)(l:List Int):List At:=(List.range l.length).map fun i=>attB now (stB c now X l i) (l.getD i 0)
theorem stB_zero(c:Cf)(now:Int)(X:Pw)(l:List Int):stB c now X l 0=X:=rfl
theorem stB_succ{c:Cf}{now:Int}{X:Pw}{l:List Int}{i:Nat}{n:Int}(h:l[i]? =some n):stB c now X l (i+1)=stpB c now (stB c now X l i) n:=by
 unfold stB runB
 rw[List.take_add_one,h,List.foldl_append]
 rfl
theorem stB_end(c:Cf)(now:Int)(X:Pw)(l:List Int):stB c now X l l.length=runB c now X l:=by
 unfold stB
 rw[List.take_length]
theorem ats_at{c:Cf}{now:Int}{X:Pw}{l:List Int}{i:Nat}{n:Int}(h:l[i]? =some n):(atsB c now X l)[i]? =some (attB now (stB c now X l i) n):=by
 have hl:=(List.getElem?_eq_some_iff.1 h).1
 unfold atsB
 rw[List.getElem?_map,List.getElem?_range hl]
 show some (attB now (stB c now X l i) (l.getD i 0))=_
 rw[List.getD_eq_getElem?_getD,h]
 rfl
theorem ats_len(c:Cf)(now:Int)(X:Pw)(l:List Int):(atsB c now X l).length=l.length:=by
 unfold atsB
 rw[List.length_map,List.length_range]
def at0:At:=⟨0,(0,0,0),0,0⟩
abbrev vAt(a:At):Value:= .agg #[.int .i64 a.at_,.int .i64 a.out.1,.int .i64 a.out.2.1,.int .u32 a.out.2.2,.int .i64 a.why,.int .i64 a.ans]
theorem relA_bd{S:Wst}{o:Ky}{y:Int}(hW:WOk S)(h:relE S o y=0):1≤relA S o y∧relA S o y≤3:=by
 unfold relA
 rw[if_pos h]
 exact headD_bd hW.qb
def RunOk(c:Cf)(now:Int)(X:Pw)(l:List Int):Prop:= ∀(i:Nat) (n:Int),l[i]? =some n→
 nE (stB c now X l i).1 n=0∧(getR (stB c now X l i).1 n).st=2∧relE (stB c now X l i).2 (getR (stB c now X l i).1 n).out (getR (stB c now X l i).1 n).why=0
theorem rel_now(S:Wst)(o:Ky)(y:Int):(relS S o y).now=S.now:=by
 unfold relS Wst.put
 split
 · rfl
 · split
   · split
     · rfl
     · split<;>rfl
   · rfl
theorem stB_now{c:Cf}{now:Int}{l:List Int}: ∀ {X:Pw} {i:Nat},(stB c now X l i).2.now=X.2.now:=by
 intro X i
 unfold stB runB
 generalize l.take i=m
 induction m generalizing X with
 |nil=>rfl
 |cons a m ih=>rw[List.foldl_cons,ih];exact rel_now _ _ _
end
section
abbrev KnT:=List UInt8×Int×Int×Int×Int
abbrev KlT:=List (Ky×KnT)
def vKnT(k:KnT):Value:= .agg #[.string (St k.1),iV k.2.1,iV k.2.2.1,iV k.2.2.2.1,iV k.2.2.2.2]
theorem numsT_one{R:List Rs}{k:Nat}{r:Rs}(hr:R[k]? =some r)(st:Int):(numsT R st (k+1)).length=(numsT R st k).length+(if r.st=st then 1 else 0):=by
 by_cases h:r.st=st
 · rw[←numsT_go hr h,if_pos h,List.length_append];rfl
 · rw[←numsT_no hr h,if_neg h];rfl
theorem numsT_zero(R:List Rs)(st:Int):(numsT R st 0).length=0:=rfl
theorem cntS_all{R:List Rs}(h: ∀r∈R,1≤r.st∧r.st≤4): ∀k,k≤R.length→(numsT R 1 k).length+(numsT R 2 k).length+(numsT R 3 k).length+(numsT R 4 k).length=k
 |0,_=>by simp only[numsT_zero]
 |k+1,hk=>by
  have hr:R[k]? =some R[k]:=List.getElem?_eq_getElem hk
  have h1:=h R[k] (List.getElem_mem hk)
  have ih:=cntS_all h k om
  simp only[numsT_one hr]
  have:R[k].st=1∨R[k].st=2∨R[k].st=3∨R[k].st=4:=by omega
  rcases this with h2|h2|h2|h2<;>simp only[h2]<;>simp<;>omega
theorem st_of{r:Rs}(h:resR r=0):1≤r.st∧r.st≤4:=by
 have h1:=(res_ok h).1
 unfold posP at h1
 omega
theorem nums_sum{n:Nat}{S:Ts}(W:Wf n S):(nums S.R 1).length+(nums S.R 2).length+(nums S.R 3).length+(nums S.R 4).length=S.R.length:=cntS_all (fun r hr=>st_of (W.res r hr)) _ (Nat.le_refl _)
variable {ds : List Deferred}
section
variable {P : Program} {Q : Exit → Act → World → Prop} {g w : World} {A : List Assn} {n : Nat} {l : Fr} {o : Oper} {N : Act → World → Prop} {L : List UInt8} {r p c : Nat}
theorem as_nextL{d:Nat}{x:Operand}(ho:o.op= .next x true)(hd:o.dst=some d)(hn:Nat.blt d n=true)(hx:fe n l x= .pointer (some ⟨r,0,none⟩))(hs:sat g w (Si r L p::A))(hp:p<L.length)(hmax:L.length≤9223372036854775807)(he:dec L p=(c,1))
 (zp zc:Int)(q:Nat)(h1:(p:Int)=zp)(h2:(c:Int)=zc)(h3:p+1=q)(h: ∀w',sat g w' (Si r L q::A)→N (mkd ds n ((d,.tuple #[.bool true,iV zp,.int .i32 zc])::l)) w'):OP P o (mkd ds n l) w N Q:=by
 subst h1;subst h2;subst h3
 have h4:=as_next (ds:=ds) (N:=N) (Q:=Q) (P:=P) ho hd hn hx hs hp hmax
 rw[he] at h4
 exact h4 h
end
end
theorem t12e37_neq_t{n:Nat}{l:Fr}{o:Oper}{x y:Operand}(a0 a1 a2 a3 a4:Int)(a5:List UInt8)(c0 c1 c2 c3 c4:Int)(c5:List UInt8)(ho:o.op= .binOp .neq 37 x y 37)(hx:fe n l x= .agg #[iV a0,iV a1,iV a2,iV a3,iV a4,.string (St a5)])(hy:fe n l y= .agg #[iV c0,iV c1,iV c2,iV c3,iV c4,.string (St c5)])(h:a0=c0∧a1=c1∧a2=c2∧a3=c3∧a4=c4∧a5=c5)(w:World):(execOp (fe n l) o).run prog w= .ok (.value (.bool false)) w:=by
 obtain⟨rfl,rfl,rfl,rfl,rfl,rfl⟩:=h
 simp[execOp,ho,hx,hy,go_sem]
theorem tagc0(L:List UInt8)(hf0:0≤tagE L)(hf1:0≤ -(tagE L)):HQ 131 [.string (St L)] [] (iV 0) []:=by
 have h:tagE L=0:=by omega
 have h2:=tag_ht L (by have:=tagE_len h;omega)
 rw[h] at h2
 exact h2
theorem ut12_1_shapes:HT prog 130 [] [] (fun v K=> ∃r10:Nat,v= .slice (some ⟨r10,0,none⟩) 18 18∧K= [Cl r10 [.string (St []),.string (St []),.string (St [110,101,119]),.string (St [109,110]),.string (St [108,111,97,100]),.string (St [109,114,105]),.string (St [115,116,111,114,101]),.string (St [109,114,105,118]),.string (St [100,114,111,112]),.string (St [109,114]),.string (St [112,117,116]),.string (St [109,82,103]),.string (St [103,101,116]),.string (St [109,103]),.string (St [97,99,107]),.string (St [109]),.string (St [111,112,101,110]),.string (St [109,107,98,113]),.string (St [100,117,112]),.string (St [109,100]),.string (St [117,115,101]),.string (St [109,100]),.string (St [114,101,110,101,119]),.string (St [109,100,116]),.string (St [99,108,111,115,101]),.string (St [109,100]),.string (St [109,97,114,107]),.string (St [115]),.string (St [98,97,116,99,104]),.string (St []),.string (St [116,105,99,107]),.string (St [84]),.string (St [99,121,99,108,101]),.string (St []),.string (St [97,110,115,119,101,114]),.string (St [97])] 193]):=by
 refine hiS func130 ntmps130 fun g w0 R h0=>g0<|nG (fun q_=> .slice (some ⟨q_,0,none⟩) 18 18) 193 [.string (St []),.string (St []),.string (St [110,101,119]),.string (St [109,110]),.string (St [108,111,97,100]),.string (St [109,114,105]),.string (St [115,116,111,114,101]),.string (St [109,114,105,118]),.string (St [100,114,111,112]),.string (St [109,114]),.string (St [112,117,116]),.string (St [109,82,103]),.string (St [103,101,116]),.string (St [109,103]),.string (St [97,99,107]),.string (St [109]),.string (St [111,112,101,110]),.string (St [109,107,98,113]),.string (St [100,117,112]),.string (St [109,100]),.string (St [117,115,101]),.string (St [109,100]),.string (St [114,101,110,101,119]),.string (St [109,100,116]),.string (St [99,108,111,115,101]),.string (St [109,100]),.string (St [109,97,114,107]),.string (St [115]),.string (St [98,97,116,99,104]),.string (St []),.string (St [116,105,99,107]),.string (St [84]),.string (St [99,121,99,108,101]),.string (St []),.string (St [97,110,115,119,101,114]),.string (St [97])] h0 (fun r10 _ h12=>⟨kd [],?_⟩)
 refine g0 ?_
 exact en (.slice (some ⟨r10,0,none⟩) 18 18) [] ⟨_,_,rfl,⟨r10,rfl,rfl⟩,h12⟩
theorem ut12_2_of:HQ 74 [iV 16] [] (.tuple #[.agg #[.string (St [99,121,99,108,101]),.string (St [])],.bool true]) []:=by
 refine hiS func74 ntmps74 fun g w0 R h0=>g0<|nP 193 [.string (St []),.string (St [])] h0 (fun _ _ h12=> ?_)
 refine g0<|cP call130 ut12_1_shapes h12 ?_
 rintro v K _ (⟨r13,rfl,rfl⟩) h15
 have h16:=ap1 h15
 refine go [.v 2 5 (oJ .i64 (18:Int) 18),.s 4 2]<|lwP (.pointer (some ⟨r13,32,none⟩)) (liS (Ot 15) (Ot 16) r13 0 16 18 18 underlying289 2 16 32) ?_
 have h17:=h16.a.t3
 refine go [rd 4 3 0 32 2 h16]<|sA [.string (St [99,121,99,108,101]),.string (St [])] h17 fun _ h19=>g0 ?_
 exact enR _ [rd 0 0 0 0 2 h19] h19.b.t1
theorem opc_cyc:HQ 34 [.agg #[iV 16,iV 0,iV 0,iV 0,iV 0,.string (St [])]] [] (iV 0) []:=by
 refine hiS func34 ntmps34 fun g w0 R h0=>g0<|nP 37 [iV 16,iV 0,iV 0,iV 0,iV 0,.string (St [])] h0 (fun _ _ h12=> ?_)
 refine go [rd 1 1 0 0 1 h12]<|cl0 call74 ut12_2_of h12 fun _ h14=>g0<|nP 193 [.string (St []),.string (St [])] h14 (fun _ _ h17=> ?_)
 refine sA [.string (St [99,121,99,108,101]),.string (St [])] h17 fun _ h19=>go [rd 2 0 1 0 6 h19]<|nP 37 [iV 0,iV 0,iV 0,iV 0,iV 0,.string (St [])] h19 (fun _ _ h22=> ?_)
 refine sA [iV 16,iV 0,iV 0,iV 0,iV 0,.string (St [])] h22 fun _ h24=>go [rd 3 1 1 1 1 h24] ?_
 refine actG ?_
 refine as_rangeStr (t:=9) (d:=20) (x:=Ot 19) (L:= []) kr kr rfl underlying9 kr h24 ?_
 intro r25 _ h27
 refine nxA<|g0<|unS 39<|g0 ?_
 refine actG ?_
 refine as_nextEnd (d:=21) (x:=Ot 20) (r:=r25) (L:= []) (p:=0) kr kr rfl kr (j:=0) h27 rfl dc ?_
 refine nxA<|g0<|up<|go [rd 12 3 1 0 6 h27,rd 12 5 3 0 1 h27,.s 12 7]<|lwP (.bool false) (t12e37_neq_t (x:=Ot 60) (y:=Ot 63) 16 0 0 0 0 [] 16 0 0 0 0 [] kr kr kr ⟨rfl,rfl,rfl,rfl,rfl,rfl⟩ _)<|g0 ?_
 exact enR _ [] h27.d.t1
theorem ut12_3_of:HQ 74 [iV 14] [] (.tuple #[.agg #[.string (St [98,97,116,99,104]),.string (St [])],.bool true]) []:=by
 refine hiS func74 ntmps74 fun g w0 R h0=>g0<|nP 193 [.string (St []),.string (St [])] h0 (fun _ _ h12=> ?_)
 refine g0<|cP call130 ut12_1_shapes h12 ?_
 rintro v K _ (⟨r13,rfl,rfl⟩) h15
 have h16:=ap1 h15
 refine go [.v 2 5 (oJ .i64 (18:Int) 18),.s 4 2]<|lwP (.pointer (some ⟨r13,28,none⟩)) (liS (Ot 15) (Ot 16) r13 0 14 18 18 underlying289 2 14 28) ?_
 have h17:=h16.a.t3
 refine go [rd 4 3 0 28 2 h16]<|sA [.string (St [98,97,116,99,104]),.string (St [])] h17 fun _ h19=>g0 ?_
 exact enR _ [rd 0 0 0 0 2 h19] h19.b.t1
theorem opc_bat:HQ 34 [.agg #[iV 14,iV 0,iV 0,iV 0,iV 0,.string (St [])]] [] (iV 0) []:=by
 refine hiS func34 ntmps34 fun g w0 R h0=>g0<|nP 37 [iV 14,iV 0,iV 0,iV 0,iV 0,.string (St [])] h0 (fun _ _ h12=> ?_)
 refine go [rd 1 1 0 0 1 h12]<|cl0 call74 ut12_3_of h12 fun _ h14=>g0<|nP 193 [.string (St []),.string (St [])] h14 (fun _ _ h17=> ?_)
 refine sA [.string (St [98,97,116,99,104]),.string (St [])] h17 fun _ h19=>go [rd 2 0 1 0 6 h19]<|nP 37 [iV 0,iV 0,iV 0,iV 0,iV 0,.string (St [])] h19 (fun _ _ h22=> ?_)
 refine sA [iV 14,iV 0,iV 0,iV 0,iV 0,.string (St [])] h22 fun _ h24=>go [rd 3 1 1 1 1 h24] ?_
 refine actG ?_
 refine as_rangeStr (t:=9) (d:=20) (x:=Ot 19) (L:= []) kr kr rfl underlying9 kr h24 ?_
 intro r25 _ h27
 refine nxA<|g0<|unS 39<|g0 ?_
 refine actG ?_
 refine as_nextEnd (d:=21) (x:=Ot 20) (r:=r25) (L:= []) (p:=0) kr kr rfl kr (j:=0) h27 rfl dc ?_
 refine nxA<|g0<|up<|go [rd 12 3 1 0 6 h27,rd 12 5 3 0 1 h27,.s 12 7]<|lwP (.bool false) (t12e37_neq_t (x:=Ot 60) (y:=Ot 63) 14 0 0 0 0 [] 14 0 0 0 0 [] kr kr kr ⟨rfl,rfl,rfl,rfl,rfl,rfl⟩ _)<|g0 ?_
 exact enR _ [] h27.d.t1
theorem ut12_4_of:HQ 74 [iV 4] [] (.tuple #[.agg #[.string (St [100,114,111,112]),.string (St [109,114])],.bool true]) []:=by
 refine hiS func74 ntmps74 fun g w0 R h0=>g0<|nP 193 [.string (St []),.string (St [])] h0 (fun _ _ h12=> ?_)
 refine g0<|cP call130 ut12_1_shapes h12 ?_
 rintro v K _ (⟨r13,rfl,rfl⟩) h15
 have h16:=ap1 h15
 refine go [.v 2 5 (oJ .i64 (18:Int) 18),.s 4 2]<|lwP (.pointer (some ⟨r13,8,none⟩)) (liS (Ot 15) (Ot 16) r13 0 4 18 18 underlying289 2 4 8) ?_
 have h17:=h16.a.t3
 refine go [rd 4 3 0 8 2 h16]<|sA [.string (St [100,114,111,112]),.string (St [109,114])] h17 fun _ h19=>g0 ?_
 exact enR _ [rd 0 0 0 0 2 h19] h19.b.t1
theorem ut12_5_number(a:Nat):HQ 75 [pV a,.int .i32 109] [] (.tuple #[.pointer (some ⟨a,1,none⟩),iV 0,iV 3]) []:=by
 refine hiS func75 ntmps75 fun g w0 R h0=>g0 ?_
 exact enR _ [] h0
theorem ut12_6_number(a:Nat):HQ 75 [pV a,.int .i32 114] [] (.tuple #[.pointer (some ⟨a,2,none⟩),iV 0,iV 31]) []:=by
 refine hiS func75 ntmps75 fun g w0 R h0=>g0 ?_
 exact enR _ [] h0
theorem opc_drop:HQ 34 [.agg #[iV 4,iV 0,iV 0,iV 0,iV 0,.string (St [])]] [] (iV 0) []:=by
 refine hiS func34 ntmps34 fun g w0 R h0=>g0<|nP 37 [iV 4,iV 0,iV 0,iV 0,iV 0,.string (St [])] h0 (fun _ _ h12=> ?_)
 refine go [rd 1 1 0 0 1 h12]<|cl0 call74 ut12_4_of h12 fun _ h14=>g0<|nP 193 [.string (St []),.string (St [])] h14 (fun _ _ h17=> ?_)
 refine sA [.string (St [100,114,111,112]),.string (St [109,114])] h17 fun _ h19=>go [rd 2 0 1 0 6 h19]<|nP 37 [iV 0,iV 0,iV 0,iV 0,iV 0,.string (St [])] h19 (fun r20 _ h22=> ?_)
 refine sA [iV 4,iV 0,iV 0,iV 0,iV 0,.string (St [])] h22 fun _ h24=>go [rd 3 1 1 1 1 h24] ?_
 refine actG ?_
 refine as_rangeStr (t:=9) (d:=20) (x:=Ot 19) (L:= [109,114]) kr kr rfl underlying9 kr h24 ?_
 intro r25 _ h27
 refine nxA<|g0<|unS 39<|g0 ?_
 refine actG ?_
 refine as_nextL (d:=21) (x:=Ot 20) (r:=r25) (L:= [109,114]) (p:=0) (c:=109) kr kr rfl kr h27 dc dc kr 0 109 1 rfl rfl rfl ?_
 intro _ h29
 refine nxA<|g0<|cl0 call75 (ut12_5_number r20) h29 fun _ h31=> ?_
 have h32:=h31.a.t5
 refine go [rd 10 4 1 1 1 h31,rd 10 11 1 1 1 h31]<|sP [(1,iV 0)] [iV 4,iV 0,iV 0,iV 0,iV 0,.string (St [])] h32 fun _ h34=>g0<|unN ?_
 have h35:=h34.a.t5
 refine g0 ?_
 refine actG ?_
 refine as_nextL (d:=21) (x:=Ot 20) (r:=r25) (L:= [109,114]) (p:=1) (c:=114) kr kr rfl kr h35 dc dc kr 1 114 2 rfl rfl rfl ?_
 intro _ h37
 refine nxA<|g0<|cl0 call75 (ut12_6_number r20) h37 fun _ h39=> ?_
 have h40:=h39.a.t5
 refine go [rd 10 4 1 2 1 h39,rd 10 11 1 2 1 h39]<|sP [(2,iV 0)] [iV 4,iV 0,iV 0,iV 0,iV 0,.string (St [])] h40 fun _ h42=>g0<|unN<|g0 ?_
 refine actG ?_
 refine as_nextEnd (d:=21) (x:=Ot 20) (r:=r25) (L:= [109,114]) (p:=2) kr kr rfl kr (j:=1) h42 rfl dc ?_
 refine nxA<|g0<|up<|go [rd 12 3 0 0 6 h42,rd 12 5 3 0 1 h42,.s 12 7]<|lwP (.bool false) (t12e37_neq_t (x:=Ot 60) (y:=Ot 63) 4 0 0 0 0 [] 4 0 0 0 0 [] kr kr kr ⟨rfl,rfl,rfl,rfl,rfl,rfl⟩ _)<|g0 ?_
 exact enR _ [] h42.d.t1
theorem ut12_7_of:HQ 74 [iV 7] [] (.tuple #[.agg #[.string (St [97,99,107]),.string (St [109])],.bool true]) []:=by
 refine hiS func74 ntmps74 fun g w0 R h0=>g0<|nP 193 [.string (St []),.string (St [])] h0 (fun _ _ h12=> ?_)
 refine g0<|cP call130 ut12_1_shapes h12 ?_
 rintro v K _ (⟨r13,rfl,rfl⟩) h15
 have h16:=ap1 h15
 refine go [.v 2 5 (oJ .i64 (18:Int) 18),.s 4 2]<|lwP (.pointer (some ⟨r13,14,none⟩)) (liS (Ot 15) (Ot 16) r13 0 7 18 18 underlying289 2 7 14) ?_
 have h17:=h16.a.t3
 refine go [rd 4 3 0 14 2 h16]<|sA [.string (St [97,99,107]),.string (St [109])] h17 fun _ h19=>g0 ?_
 exact enR _ [rd 0 0 0 0 2 h19] h19.b.t1
theorem opc_ack(jz:Int)(hf0:0≤jz)(hf1:0≤ -jz+3):HQ 34 [.agg #[iV 7,iV jz,iV 0,iV 0,iV 0,.string (St [])]] [] (iV 0) []:=by
 refine hiS func34 ntmps34 fun g w0 R h0=>g0<|nP 37 [iV 7,iV jz,iV 0,iV 0,iV 0,.string (St [])] h0 (fun _ _ h12=> ?_)
 refine go [rd 1 1 0 0 1 h12]<|cl0 call74 ut12_7_of h12 fun _ h14=>g0<|nP 193 [.string (St []),.string (St [])] h14 (fun _ _ h17=> ?_)
 refine sA [.string (St [97,99,107]),.string (St [109])] h17 fun _ h19=>go [rd 2 0 1 0 6 h19]<|nP 37 [iV 0,iV 0,iV 0,iV 0,iV 0,.string (St [])] h19 (fun r20 _ h22=> ?_)
 refine sA [iV 7,iV jz,iV 0,iV 0,iV 0,.string (St [])] h22 fun _ h24=>go [rd 3 1 1 1 1 h24] ?_
 refine actG ?_
 refine as_rangeStr (t:=9) (d:=20) (x:=Ot 19) (L:= [109]) kr kr rfl underlying9 kr h24 ?_
 intro r25 _ h27
 refine nxA<|g0<|unS 39<|g0 ?_
 refine actG ?_
 refine as_nextL (d:=21) (x:=Ot 20) (r:=r25) (L:= [109]) (p:=0) (c:=109) kr kr rfl kr h27 dc dc kr 0 109 1 rfl rfl rfl ?_
 intro _ h29
 refine nxA<|g0<|cl0 call75 (ut12_5_number r20) h29 fun _ h31=> ?_
 have h32:=h31.a.t5
 refine go [rd 10 4 1 1 1 h31,.v 10 6 (oT (jz≥0)),rd 10 11 1 1 1 h31,.v 10 13 (oT (jz≤3))]<|sP [(1,iV 0)] [iV 7,iV 0,iV 0,iV 0,iV 0,.string (St [])] h32 fun _ h34=>g0<|unN<|g0 ?_
 refine actG ?_
 refine as_nextEnd (d:=21) (x:=Ot 20) (r:=r25) (L:= [109]) (p:=1) kr kr rfl kr (j:=1) h34 rfl dc ?_
 refine nxA<|g0<|up<|go [rd 12 3 0 0 6 h34,rd 12 5 3 0 1 h34,.s 12 7]<|lwP (.bool false) (t12e37_neq_t (x:=Ot 60) (y:=Ot 63) 7 0 0 0 0 [] 7 0 0 0 0 [] kr kr kr ⟨rfl,rfl,rfl,rfl,rfl,rfl⟩ _)<|g0 ?_
 exact enR _ [] h34.d.t1
theorem ut12_8_of:HQ 74 [iV 13] [] (.tuple #[.agg #[.string (St [109,97,114,107]),.string (St [115])],.bool true]) []:=by
 refine hiS func74 ntmps74 fun g w0 R h0=>g0<|nP 193 [.string (St []),.string (St [])] h0 (fun _ _ h12=> ?_)
 refine g0<|cP call130 ut12_1_shapes h12 ?_
 rintro v K _ (⟨r13,rfl,rfl⟩) h15
 have h16:=ap1 h15
 refine go [.v 2 5 (oJ .i64 (18:Int) 18),.s 4 2]<|lwP (.pointer (some ⟨r13,26,none⟩)) (liS (Ot 15) (Ot 16) r13 0 13 18 18 underlying289 2 13 26) ?_
 have h17:=h16.a.t3
 refine go [rd 4 3 0 26 2 h16]<|sA [.string (St [109,97,114,107]),.string (St [115])] h17 fun _ h19=>g0 ?_
 exact enR _ [rd 0 0 0 0 2 h19] h19.b.t1
theorem ut12_9_number(a:Nat):HQ 75 [pV a,.int .i32 115] [] (.tuple #[.pointer (some ⟨a,2,none⟩),iV 1,iV 10000]) []:=by
 refine hiS func75 ntmps75 fun g w0 R h0=>g0 ?_
 exact enR _ [] h0
theorem opc_mark(i:Int)(hf0:0≤i-1)(hf1:0≤ -i+10000):HQ 34 [.agg #[iV 13,iV 0,iV i,iV 0,iV 0,.string (St [])]] [] (iV 0) []:=by
 refine hiS func34 ntmps34 fun g w0 R h0=>g0<|nP 37 [iV 13,iV 0,iV i,iV 0,iV 0,.string (St [])] h0 (fun _ _ h12=> ?_)
 refine go [rd 1 1 0 0 1 h12]<|cl0 call74 ut12_8_of h12 fun _ h14=>g0<|nP 193 [.string (St []),.string (St [])] h14 (fun _ _ h17=> ?_)
 refine sA [.string (St [109,97,114,107]),.string (St [115])] h17 fun _ h19=>go [rd 2 0 1 0 6 h19]<|nP 37 [iV 0,iV 0,iV 0,iV 0,iV 0,.string (St [])] h19 (fun r20 _ h22=> ?_)
 refine sA [iV 13,iV 0,iV i,iV 0,iV 0,.string (St [])] h22 fun _ h24=>go [rd 3 1 1 1 1 h24] ?_
 refine actG ?_
 refine as_rangeStr (t:=9) (d:=20) (x:=Ot 19) (L:= [115]) kr kr rfl underlying9 kr h24 ?_
 intro r25 _ h27
 refine nxA<|g0<|unS 39<|g0 ?_
 refine actG ?_
 refine as_nextL (d:=21) (x:=Ot 20) (r:=r25) (L:= [115]) (p:=0) (c:=115) kr kr rfl kr h27 dc dc kr 0 115 1 rfl rfl rfl ?_
 intro _ h29
 refine nxA<|g0<|cl0 call75 (ut12_9_number r20) h29 fun _ h31=> ?_
 have h32:=h31.a.t5
 refine go [rd 10 4 1 2 1 h31,.v 10 6 (oT (i≥1)),rd 10 11 1 2 1 h31,.v 10 13 (oT (i≤10000))]<|sP [(2,iV 0)] [iV 13,iV 0,iV 0,iV 0,iV 0,.string (St [])] h32 fun _ h34=>g0<|unN<|g0 ?_
 refine actG ?_
 refine as_nextEnd (d:=21) (x:=Ot 20) (r:=r25) (L:= [115]) (p:=1) kr kr rfl kr (j:=1) h34 rfl dc ?_
 refine nxA<|g0<|up<|go [rd 12 3 0 0 6 h34,rd 12 5 3 0 1 h34,.s 12 7]<|lwP (.bool false) (t12e37_neq_t (x:=Ot 60) (y:=Ot 63) 13 0 0 0 0 [] 13 0 0 0 0 [] kr kr kr ⟨rfl,rfl,rfl,rfl,rfl,rfl⟩ _)<|g0 ?_
 exact enR _ [] h34.d.t1
theorem ut12_10_of:HQ 74 [iV 12] [] (.tuple #[.agg #[.string (St [99,108,111,115,101]),.string (St [109,100])],.bool true]) []:=by
 refine hiS func74 ntmps74 fun g w0 R h0=>g0<|nP 193 [.string (St []),.string (St [])] h0 (fun _ _ h12=> ?_)
 refine g0<|cP call130 ut12_1_shapes h12 ?_
 rintro v K _ (⟨r13,rfl,rfl⟩) h15
 have h16:=ap1 h15
 refine go [.v 2 5 (oJ .i64 (18:Int) 18),.s 4 2]<|lwP (.pointer (some ⟨r13,24,none⟩)) (liS (Ot 15) (Ot 16) r13 0 12 18 18 underlying289 2 12 24) ?_
 have h17:=h16.a.t3
 refine go [rd 4 3 0 24 2 h16]<|sA [.string (St [99,108,111,115,101]),.string (St [109,100])] h17 fun _ h19=>g0 ?_
 exact enR _ [rd 0 0 0 0 2 h19] h19.b.t1
theorem ut12_11_number(a:Nat):HQ 75 [pV a,.int .i32 100] [] (.tuple #[.pointer (some ⟨a,2,none⟩),iV 0,iV 1999]) []:=by
 refine hiS func75 ntmps75 fun g w0 R h0=>g0 ?_
 exact enR _ [] h0
theorem opc_close(i:Int)(hf0:0≤i)(hf1:0≤ -i+1999):HQ 34 [.agg #[iV 12,iV 0,iV i,iV 0,iV 0,.string (St [])]] [] (iV 0) []:=by
 refine hiS func34 ntmps34 fun g w0 R h0=>g0<|nP 37 [iV 12,iV 0,iV i,iV 0,iV 0,.string (St [])] h0 (fun _ _ h12=> ?_)
 refine go [rd 1 1 0 0 1 h12]<|cl0 call74 ut12_10_of h12 fun _ h14=>g0<|nP 193 [.string (St []),.string (St [])] h14 (fun _ _ h17=> ?_)
 refine sA [.string (St [99,108,111,115,101]),.string (St [109,100])] h17 fun _ h19=>go [rd 2 0 1 0 6 h19]<|nP 37 [iV 0,iV 0,iV 0,iV 0,iV 0,.string (St [])] h19 (fun r20 _ h22=> ?_)
 refine sA [iV 12,iV 0,iV i,iV 0,iV 0,.string (St [])] h22 fun _ h24=>go [rd 3 1 1 1 1 h24] ?_
 refine actG ?_
 refine as_rangeStr (t:=9) (d:=20) (x:=Ot 19) (L:= [109,100]) kr kr rfl underlying9 kr h24 ?_
 intro r25 _ h27
 refine nxA<|g0<|unS 39<|g0 ?_
 refine actG ?_
 refine as_nextL (d:=21) (x:=Ot 20) (r:=r25) (L:= [109,100]) (p:=0) (c:=109) kr kr rfl kr h27 dc dc kr 0 109 1 rfl rfl rfl ?_
 intro _ h29
 refine nxA<|g0<|cl0 call75 (ut12_5_number r20) h29 fun _ h31=> ?_
 have h32:=h31.a.t5
 refine go [rd 10 4 1 1 1 h31,rd 10 11 1 1 1 h31]<|sP [(1,iV 0)] [iV 12,iV 0,iV i,iV 0,iV 0,.string (St [])] h32 fun _ h34=>g0<|unN ?_
 have h35:=h34.a.t5
 refine g0 ?_
 refine actG ?_
 refine as_nextL (d:=21) (x:=Ot 20) (r:=r25) (L:= [109,100]) (p:=1) (c:=100) kr kr rfl kr h35 dc dc kr 1 100 2 rfl rfl rfl ?_
 intro _ h37
 refine nxA<|g0<|cl0 call75 (ut12_11_number r20) h37 fun _ h39=> ?_
 have h40:=h39.a.t5
 refine go [rd 10 4 1 2 1 h39,.v 10 6 (oT (i≥0)),rd 10 11 1 2 1 h39,.v 10 13 (oT (i≤1999))]<|sP [(2,iV 0)] [iV 12,iV 0,iV 0,iV 0,iV 0,.string (St [])] h40 fun _ h42=>g0<|unN<|g0 ?_
 refine actG ?_
 refine as_nextEnd (d:=21) (x:=Ot 20) (r:=r25) (L:= [109,100]) (p:=2) kr kr rfl kr (j:=1) h42 rfl dc ?_
 refine nxA<|g0<|up<|go [rd 12 3 0 0 6 h42,rd 12 5 3 0 1 h42,.s 12 7]<|lwP (.bool false) (t12e37_neq_t (x:=Ot 60) (y:=Ot 63) 12 0 0 0 0 [] 12 0 0 0 0 [] kr kr kr ⟨rfl,rfl,rfl,rfl,rfl,rfl⟩ _)<|g0 ?_
 exact enR _ [] h42.d.t1
theorem ut12_12_of:HQ 74 [iV 10] [] (.tuple #[.agg #[.string (St [117,115,101]),.string (St [109,100])],.bool true]) []:=by
 refine hiS func74 ntmps74 fun g w0 R h0=>g0<|nP 193 [.string (St []),.string (St [])] h0 (fun _ _ h12=> ?_)
 refine g0<|cP call130 ut12_1_shapes h12 ?_
 rintro v K _ (⟨r13,rfl,rfl⟩) h15
 have h16:=ap1 h15
 refine go [.v 2 5 (oJ .i64 (18:Int) 18),.s 4 2]<|lwP (.pointer (some ⟨r13,20,none⟩)) (liS (Ot 15) (Ot 16) r13 0 10 18 18 underlying289 2 10 20) ?_
 have h17:=h16.a.t3
 refine go [rd 4 3 0 20 2 h16]<|sA [.string (St [117,115,101]),.string (St [109,100])] h17 fun _ h19=>g0 ?_
 exact enR _ [rd 0 0 0 0 2 h19] h19.b.t1
theorem opc_use(i:Int)(hf0:0≤i)(hf1:0≤ -i+1999):HQ 34 [.agg #[iV 10,iV 0,iV i,iV 0,iV 0,.string (St [])]] [] (iV 0) []:=by
 refine hiS func34 ntmps34 fun g w0 R h0=>g0<|nP 37 [iV 10,iV 0,iV i,iV 0,iV 0,.string (St [])] h0 (fun _ _ h12=> ?_)
 refine go [rd 1 1 0 0 1 h12]<|cl0 call74 ut12_12_of h12 fun _ h14=>g0<|nP 193 [.string (St []),.string (St [])] h14 (fun _ _ h17=> ?_)
 refine sA [.string (St [117,115,101]),.string (St [109,100])] h17 fun _ h19=>go [rd 2 0 1 0 6 h19]<|nP 37 [iV 0,iV 0,iV 0,iV 0,iV 0,.string (St [])] h19 (fun r20 _ h22=> ?_)
 refine sA [iV 10,iV 0,iV i,iV 0,iV 0,.string (St [])] h22 fun _ h24=>go [rd 3 1 1 1 1 h24] ?_
 refine actG ?_
 refine as_rangeStr (t:=9) (d:=20) (x:=Ot 19) (L:= [109,100]) kr kr rfl underlying9 kr h24 ?_
 intro r25 _ h27
 refine nxA<|g0<|unS 39<|g0 ?_
 refine actG ?_
 refine as_nextL (d:=21) (x:=Ot 20) (r:=r25) (L:= [109,100]) (p:=0) (c:=109) kr kr rfl kr h27 dc dc kr 0 109 1 rfl rfl rfl ?_
 intro _ h29
 refine nxA<|g0<|cl0 call75 (ut12_5_number r20) h29 fun _ h31=> ?_
 have h32:=h31.a.t5
 refine go [rd 10 4 1 1 1 h31,rd 10 11 1 1 1 h31]<|sP [(1,iV 0)] [iV 10,iV 0,iV i,iV 0,iV 0,.string (St [])] h32 fun _ h34=>g0<|unN ?_
 have h35:=h34.a.t5
 refine g0 ?_
 refine actG ?_
 refine as_nextL (d:=21) (x:=Ot 20) (r:=r25) (L:= [109,100]) (p:=1) (c:=100) kr kr rfl kr h35 dc dc kr 1 100 2 rfl rfl rfl ?_
 intro _ h37
 refine nxA<|g0<|cl0 call75 (ut12_11_number r20) h37 fun _ h39=> ?_
 have h40:=h39.a.t5
 refine go [rd 10 4 1 2 1 h39,.v 10 6 (oT (i≥0)),rd 10 11 1 2 1 h39,.v 10 13 (oT (i≤1999))]<|sP [(2,iV 0)] [iV 10,iV 0,iV 0,iV 0,iV 0,.string (St [])] h40 fun _ h42=>g0<|unN<|g0 ?_
 refine actG ?_
 refine as_nextEnd (d:=21) (x:=Ot 20) (r:=r25) (L:= [109,100]) (p:=2) kr kr rfl kr (j:=1) h42 rfl dc ?_
 refine nxA<|g0<|up<|go [rd 12 3 0 0 6 h42,rd 12 5 3 0 1 h42,.s 12 7]<|lwP (.bool false) (t12e37_neq_t (x:=Ot 60) (y:=Ot 63) 10 0 0 0 0 [] 10 0 0 0 0 [] kr kr kr ⟨rfl,rfl,rfl,rfl,rfl,rfl⟩ _)<|g0 ?_
 exact enR _ [] h42.d.t1
theorem ut12_13_of:HQ 74 [iV 8] [] (.tuple #[.agg #[.string (St [111,112,101,110]),.string (St [109,107,98,113])],.bool true]) []:=by
 refine hiS func74 ntmps74 fun g w0 R h0=>g0<|nP 193 [.string (St []),.string (St [])] h0 (fun _ _ h12=> ?_)
 refine g0<|cP call130 ut12_1_shapes h12 ?_
 rintro v K _ (⟨r13,rfl,rfl⟩) h15
 have h16:=ap1 h15
 refine go [.v 2 5 (oJ .i64 (18:Int) 18),.s 4 2]<|lwP (.pointer (some ⟨r13,16,none⟩)) (liS (Ot 15) (Ot 16) r13 0 8 18 18 underlying289 2 8 16) ?_
 have h17:=h16.a.t3
 refine go [rd 4 3 0 16 2 h16]<|sA [.string (St [111,112,101,110]),.string (St [109,107,98,113])] h17 fun _ h19=>g0 ?_
 exact enR _ [rd 0 0 0 0 2 h19] h19.b.t1
theorem ut12_14_number(a:Nat):HQ 75 [pV a,.int .i32 107] [] (.tuple #[.pointer (some ⟨a,2,none⟩),iV 1,iV 3]) []:=by
 refine hiS func75 ntmps75 fun g w0 R h0=>g0 ?_
 exact enR _ [] h0
theorem ut12_15_number(a:Nat):HQ 75 [pV a,.int .i32 98] [] (.tuple #[.pointer (some ⟨a,3,none⟩),iV 0,iV 1048576]) []:=by
 refine hiS func75 ntmps75 fun g w0 R h0=>g0 ?_
 exact enR _ [] h0
theorem ut12_16_number(a:Nat):HQ 75 [pV a,.int .i32 113] [] (.tuple #[.pointer none,iV 0,iV 0]) []:=by
 refine hiS func75 ntmps75 fun g w0 R h0=>g0 ?_
 exact enR _ [] h0
theorem ut12_17_text(a:List UInt8)(hf0:0≤(tagE a))(hf1:0≤ -(tagE a)):HQ 76 [.int .i32 113,.string (St a)] [] (.bool true) []:=by
 refine hiS func76 ntmps76 fun g w0 R h0=>g0<|cl0 call131 (tagc0 a om om) h0 fun _ h11=>g0 ?_
 exact enR _ [] h11
theorem opc_open(x:Int)(L:List UInt8)(hf0:0≤x)(hf1:0≤ -x+1048576)(hf2:0≤(tagE L))(hf3:0≤ -(tagE L)):HQ 34 [.agg #[iV 8,iV 0,iV 1,iV x,iV 0,.string (St L)]] [] (iV 0) []:=by
 refine hiS func34 ntmps34 fun g w0 R h0=>g0<|nP 37 [iV 8,iV 0,iV 1,iV x,iV 0,.string (St L)] h0 (fun _ _ h12=> ?_)
 refine go [rd 1 1 0 0 1 h12]<|cl0 call74 ut12_13_of h12 fun _ h14=>g0<|nP 193 [.string (St []),.string (St [])] h14 (fun _ _ h17=> ?_)
 refine sA [.string (St [111,112,101,110]),.string (St [109,107,98,113])] h17 fun _ h19=>go [rd 2 0 1 0 6 h19]<|nP 37 [iV 0,iV 0,iV 0,iV 0,iV 0,.string (St [])] h19 (fun r20 _ h22=> ?_)
 refine sA [iV 8,iV 0,iV 1,iV x,iV 0,.string (St L)] h22 fun _ h24=>go [rd 3 1 1 1 1 h24] ?_
 refine actG ?_
 refine as_rangeStr (t:=9) (d:=20) (x:=Ot 19) (L:= [109,107,98,113]) kr kr rfl underlying9 kr h24 ?_
 intro r25 _ h27
 refine nxA<|g0<|unS 39<|g0 ?_
 refine actG ?_
 refine as_nextL (d:=21) (x:=Ot 20) (r:=r25) (L:= [109,107,98,113]) (p:=0) (c:=109) kr kr rfl kr h27 dc dc kr 0 109 1 rfl rfl rfl ?_
 intro _ h29
 refine nxA<|g0<|cl0 call75 (ut12_5_number r20) h29 fun _ h31=> ?_
 have h32:=h31.a.t5
 refine go [rd 10 4 1 1 1 h31,rd 10 11 1 1 1 h31]<|sP [(1,iV 0)] [iV 8,iV 0,iV 1,iV x,iV 0,.string (St L)] h32 fun _ h34=>g0<|unN ?_
 have h35:=h34.a.t5
 refine g0 ?_
 refine actG ?_
 refine as_nextL (d:=21) (x:=Ot 20) (r:=r25) (L:= [109,107,98,113]) (p:=1) (c:=107) kr kr rfl kr h35 dc dc kr 1 107 2 rfl rfl rfl ?_
 intro _ h37
 refine nxA<|g0<|cl0 call75 (ut12_14_number r20) h37 fun _ h39=> ?_
 have h40:=h39.a.t5
 refine go [rd 10 4 1 2 1 h39,rd 10 11 1 2 1 h39]<|sP [(2,iV 0)] [iV 8,iV 0,iV 0,iV x,iV 0,.string (St L)] h40 fun _ h42=>g0<|unN ?_
 have h43:=h42.a.t5
 refine g0 ?_
 refine actG ?_
 refine as_nextL (d:=21) (x:=Ot 20) (r:=r25) (L:= [109,107,98,113]) (p:=2) (c:=98) kr kr rfl kr h43 dc dc kr 2 98 3 rfl rfl rfl ?_
 intro _ h45
 refine nxA<|g0<|cl0 call75 (ut12_15_number r20) h45 fun _ h47=> ?_
 have h48:=h47.a.t5
 refine go [rd 10 4 1 3 1 h47,.v 10 6 (oT (x≥0)),rd 10 11 1 3 1 h47,.v 10 13 (oT (x≤1048576))]<|sP [(3,iV 0)] [iV 8,iV 0,iV 0,iV 0,iV 0,.string (St L)] h48 fun _ h50=>g0<|unN ?_
 have h51:=h50.a.t5
 refine g0 ?_
 refine actG ?_
 refine as_nextL (d:=21) (x:=Ot 20) (r:=r25) (L:= [109,107,98,113]) (p:=3) (c:=113) kr kr rfl kr h51 dc dc kr 3 113 4 rfl rfl rfl ?_
 intro _ h53
 refine nxA<|g0<|cl0 call75 (ut12_16_number r20) h53 fun _ h55=>go [rd 8 4 3 5 1 h55]<|cl0 call76 (ut12_17_text L om om) h55 fun _ h57=> ?_
 have h58:=h57.a.t5
 refine g0<|sP [(5,.string (St []))] [iV 8,iV 0,iV 0,iV 0,iV 0,.string (St [])] h58 fun _ h60=>g0<|unN<|g0 ?_
 refine actG ?_
 refine as_nextEnd (d:=21) (x:=Ot 20) (r:=r25) (L:= [109,107,98,113]) (p:=4) kr kr rfl kr (j:=1) h60 rfl dc ?_
 refine nxA<|g0<|up<|go [rd 12 3 0 0 6 h60,rd 12 5 3 0 1 h60,.s 12 7]<|lwP (.bool false) (t12e37_neq_t (x:=Ot 60) (y:=Ot 63) 8 0 0 0 0 [] 8 0 0 0 0 [] kr kr kr ⟨rfl,rfl,rfl,rfl,rfl,rfl⟩ _)<|g0 ?_
 exact enR _ [] h60.d.t1
theorem ut12_18_HasPrefix:HQ 133 [.string (St [109,114]),.string (St [109])] [] (.bool true) []:=by
 refine hiS func133 ntmps133 fun g w0 R h0=>go [.v 1 1 (⟨iV ((St [109,114]).size:Int),iV 2,(ov_int rfl)⟩),.v 1 3 (⟨iV ((St [109]).size:Int),iV 1,(ov_int rfl)⟩),.v 1 8 (⟨iV ((St [109]).size:Int),iV 1,(ov_int rfl)⟩),.s 1 9]<|lwP (.string (St ([109,114].take 1))) (law_strTo (t:=9) (x:=Ot 11) (y:=Ot 13) (L:= [109,114]) (z:=1) kr underlying9 kr kr 1 om dc _)<|go [.s 1 11]<|lwP (.bool true) (law_eqStr (t:=9) (x:=Ot 14) (y:=Ot 15) (a:=([109,114].take 1)) (b:= [109]) kr kr kr true dc _)<|g0 ?_
 exact enR _ [] h0
theorem ut12_19_HasPrefix:HQ 77 [.string (St [109,114]),.string (St [109])] [] (.bool true) []:=by
 refine hiS func77 ntmps77 fun g w0 R h0=>g0<|cl0 call133 ut12_18_HasPrefix h0 fun _ h11=>g0 ?_
 exact enR _ [] h11
theorem opm_4:HQ 35 [iV 4] [] (.bool true) []:=by
 refine hiS func35 ntmps35 fun g w0 R h0=>g0<|cl0 call74 ut12_4_of h0 fun _ h11=>g0<|nP 193 [.string (St []),.string (St [])] h11 (fun _ _ h14=> ?_)
 refine sA [.string (St [100,114,111,112]),.string (St [109,114])] h14 fun _ h16=>go [rd 2 3 0 1 1 h16]<|cl0 call77 ut12_19_HasPrefix h16 fun _ h18=>g0 ?_
 exact enR _ [] h18.a.t1
theorem ut12_20_HasPrefix:HQ 133 [.string (St [109]),.string (St [109])] [] (.bool true) []:=by
 refine hiS func133 ntmps133 fun g w0 R h0=>go [.v 1 1 (⟨iV ((St [109]).size:Int),iV 1,(ov_int rfl)⟩),.v 1 3 (⟨iV ((St [109]).size:Int),iV 1,(ov_int rfl)⟩),.v 1 8 (⟨iV ((St [109]).size:Int),iV 1,(ov_int rfl)⟩),.s 1 9]<|lwP (.string (St ([109].take 1))) (law_strTo (t:=9) (x:=Ot 11) (y:=Ot 13) (L:= [109]) (z:=1) kr underlying9 kr kr 1 om dc _)<|go [.s 1 11]<|lwP (.bool true) (law_eqStr (t:=9) (x:=Ot 14) (y:=Ot 15) (a:=([109].take 1)) (b:= [109]) kr kr kr true dc _)<|g0 ?_
 exact enR _ [] h0
theorem ut12_21_HasPrefix:HQ 77 [.string (St [109]),.string (St [109])] [] (.bool true) []:=by
 refine hiS func77 ntmps77 fun g w0 R h0=>g0<|cl0 call133 ut12_20_HasPrefix h0 fun _ h11=>g0 ?_
 exact enR _ [] h11
theorem opm_7:HQ 35 [iV 7] [] (.bool true) []:=by
 refine hiS func35 ntmps35 fun g w0 R h0=>g0<|cl0 call74 ut12_7_of h0 fun _ h11=>g0<|nP 193 [.string (St []),.string (St [])] h11 (fun _ _ h14=> ?_)
 refine sA [.string (St [97,99,107]),.string (St [109])] h14 fun _ h16=>go [rd 2 3 0 1 1 h16]<|cl0 call77 ut12_21_HasPrefix h16 fun _ h18=>g0 ?_
 exact enR _ [] h18.a.t1
theorem ut12_22_HasPrefix:HQ 133 [.string (St [109,107,98,113]),.string (St [109])] [] (.bool true) []:=by
 refine hiS func133 ntmps133 fun g w0 R h0=>go [.v 1 1 (⟨iV ((St [109,107,98,113]).size:Int),iV 4,(ov_int rfl)⟩),.v 1 3 (⟨iV ((St [109]).size:Int),iV 1,(ov_int rfl)⟩),.v 1 8 (⟨iV ((St [109]).size:Int),iV 1,(ov_int rfl)⟩),.s 1 9]<|lwP (.string (St ([109,107,98,113].take 1))) (law_strTo (t:=9) (x:=Ot 11) (y:=Ot 13) (L:= [109,107,98,113]) (z:=1) kr underlying9 kr kr 1 om dc _)<|go [.s 1 11]<|lwP (.bool true) (law_eqStr (t:=9) (x:=Ot 14) (y:=Ot 15) (a:=([109,107,98,113].take 1)) (b:= [109]) kr kr kr true dc _)<|g0 ?_
 exact enR _ [] h0
theorem ut12_23_HasPrefix:HQ 77 [.string (St [109,107,98,113]),.string (St [109])] [] (.bool true) []:=by
 refine hiS func77 ntmps77 fun g w0 R h0=>g0<|cl0 call133 ut12_22_HasPrefix h0 fun _ h11=>g0 ?_
 exact enR _ [] h11
theorem opm_8:HQ 35 [iV 8] [] (.bool true) []:=by
 refine hiS func35 ntmps35 fun g w0 R h0=>g0<|cl0 call74 ut12_13_of h0 fun _ h11=>g0<|nP 193 [.string (St []),.string (St [])] h11 (fun _ _ h14=> ?_)
 refine sA [.string (St [111,112,101,110]),.string (St [109,107,98,113])] h14 fun _ h16=>go [rd 2 3 0 1 1 h16]<|cl0 call77 ut12_23_HasPrefix h16 fun _ h18=>g0 ?_
 exact enR _ [] h18.a.t1
theorem ut12_24_HasPrefix:HQ 133 [.string (St [109,100]),.string (St [109])] [] (.bool true) []:=by
 refine hiS func133 ntmps133 fun g w0 R h0=>go [.v 1 1 (⟨iV ((St [109,100]).size:Int),iV 2,(ov_int rfl)⟩),.v 1 3 (⟨iV ((St [109]).size:Int),iV 1,(ov_int rfl)⟩),.v 1 8 (⟨iV ((St [109]).size:Int),iV 1,(ov_int rfl)⟩),.s 1 9]<|lwP (.string (St ([109,100].take 1))) (law_strTo (t:=9) (x:=Ot 11) (y:=Ot 13) (L:= [109,100]) (z:=1) kr underlying9 kr kr 1 om dc _)<|go [.s 1 11]<|lwP (.bool true) (law_eqStr (t:=9) (x:=Ot 14) (y:=Ot 15) (a:=([109,100].take 1)) (b:= [109]) kr kr kr true dc _)<|g0 ?_
 exact enR _ [] h0
theorem ut12_25_HasPrefix:HQ 77 [.string (St [109,100]),.string (St [109])] [] (.bool true) []:=by
 refine hiS func77 ntmps77 fun g w0 R h0=>g0<|cl0 call133 ut12_24_HasPrefix h0 fun _ h11=>g0 ?_
 exact enR _ [] h11
theorem opm_10:HQ 35 [iV 10] [] (.bool true) []:=by
 refine hiS func35 ntmps35 fun g w0 R h0=>g0<|cl0 call74 ut12_12_of h0 fun _ h11=>g0<|nP 193 [.string (St []),.string (St [])] h11 (fun _ _ h14=> ?_)
 refine sA [.string (St [117,115,101]),.string (St [109,100])] h14 fun _ h16=>go [rd 2 3 0 1 1 h16]<|cl0 call77 ut12_25_HasPrefix h16 fun _ h18=>g0 ?_
 exact enR _ [] h18.a.t1
theorem opm_12:HQ 35 [iV 12] [] (.bool true) []:=by
 refine hiS func35 ntmps35 fun g w0 R h0=>g0<|cl0 call74 ut12_10_of h0 fun _ h11=>g0<|nP 193 [.string (St []),.string (St [])] h11 (fun _ _ h14=> ?_)
 refine sA [.string (St [99,108,111,115,101]),.string (St [109,100])] h14 fun _ h16=>go [rd 2 3 0 1 1 h16]<|cl0 call77 ut12_25_HasPrefix h16 fun _ h18=>g0 ?_
 exact enR _ [] h18.a.t1
theorem ut12_26_HasPrefix:HQ 133 [.string (St [115]),.string (St [109])] [] (.bool false) []:=by
 refine hiS func133 ntmps133 fun g w0 R h0=>go [.v 1 1 (⟨iV ((St [115]).size:Int),iV 1,(ov_int rfl)⟩),.v 1 3 (⟨iV ((St [109]).size:Int),iV 1,(ov_int rfl)⟩),.v 1 8 (⟨iV ((St [109]).size:Int),iV 1,(ov_int rfl)⟩),.s 1 9]<|lwP (.string (St ([115].take 1))) (law_strTo (t:=9) (x:=Ot 11) (y:=Ot 13) (L:= [115]) (z:=1) kr underlying9 kr kr 1 om dc _)<|go [.s 1 11]<|lwP (.bool false) (law_eqStr (t:=9) (x:=Ot 14) (y:=Ot 15) (a:=([115].take 1)) (b:= [109]) kr kr kr false dc _)<|g0 ?_
 exact enR _ [] h0
theorem ut12_27_HasPrefix:HQ 77 [.string (St [115]),.string (St [109])] [] (.bool false) []:=by
 refine hiS func77 ntmps77 fun g w0 R h0=>g0<|cl0 call133 ut12_26_HasPrefix h0 fun _ h11=>g0 ?_
 exact enR _ [] h11
theorem opm_13:HQ 35 [iV 13] [] (.bool false) []:=by
 refine hiS func35 ntmps35 fun g w0 R h0=>g0<|cl0 call74 ut12_8_of h0 fun _ h11=>g0<|nP 193 [.string (St []),.string (St [])] h11 (fun _ _ h14=> ?_)
 refine sA [.string (St [109,97,114,107]),.string (St [115])] h14 fun _ h16=>go [rd 2 3 0 1 1 h16]<|cl0 call77 ut12_27_HasPrefix h16 fun _ h18=>g0 ?_
 exact enR _ [] h18.a.t1
theorem ut12_28_HasPrefix:HQ 133 [.string (St []),.string (St [109])] [] (.bool false) []:=by
 refine hiS func133 ntmps133 fun g w0 R h0=>go [.v 1 1 (⟨iV ((St []).size:Int),iV 0,(ov_int rfl)⟩),.v 1 3 (⟨iV ((St [109]).size:Int),iV 1,(ov_int rfl)⟩)] ?_
 exact enR _ [] h0
theorem ut12_29_HasPrefix:HQ 77 [.string (St []),.string (St [109])] [] (.bool false) []:=by
 refine hiS func77 ntmps77 fun g w0 R h0=>g0<|cl0 call133 ut12_28_HasPrefix h0 fun _ h11=>g0 ?_
 exact enR _ [] h11
theorem opm_14:HQ 35 [iV 14] [] (.bool false) []:=by
 refine hiS func35 ntmps35 fun g w0 R h0=>g0<|cl0 call74 ut12_3_of h0 fun _ h11=>g0<|nP 193 [.string (St []),.string (St [])] h11 (fun _ _ h14=> ?_)
 refine sA [.string (St [98,97,116,99,104]),.string (St [])] h14 fun _ h16=>go [rd 2 3 0 1 1 h16]<|cl0 call77 ut12_29_HasPrefix h16 fun _ h18=>g0 ?_
 exact enR _ [] h18.a.t1
theorem opm_16:HQ 35 [iV 16] [] (.bool false) []:=by
 refine hiS func35 ntmps35 fun g w0 R h0=>g0<|cl0 call74 ut12_2_of h0 fun _ h11=>g0<|nP 193 [.string (St []),.string (St [])] h11 (fun _ _ h14=> ?_)
 refine sA [.string (St [99,121,99,108,101]),.string (St [])] h14 fun _ h16=>go [rd 2 3 0 1 1 h16]<|cl0 call77 ut12_29_HasPrefix h16 fun _ h18=>g0 ?_
 exact enR _ [] h18.a.t1
theorem ut12_30_Index(a:Nat):HQ 134 [.slice (some ⟨a,0,none⟩) 4 4,iV 4] [Cl a [iV 9,iV 10,iV 11,iV 12] 3] (iV (-1)) [Cl a [iV 9,iV 10,iV 11,iV 12] 3]:=by
 refine hiS func134 ntmps134 fun g w0 R h0=>go [.v 1 1 (oJ .i64 (4:Int) 4)]<|unS 39<|go [.s 4 3]<|lwP (pV a) (liS (Ot 12) (Ot 13) a 0 0 4 4 underlying134 1 0 0)<|go [rd 4 4 0 0 1 h0]<|unN<|go [.s 4 3]<|lwP (.pointer (some ⟨a,1,none⟩)) (liS (Ot 12) (Ot 13) a 0 1 4 4 underlying134 1 1 1)<|go [rd 4 4 0 1 1 h0]<|unN<|go [.s 4 3]<|lwP (.pointer (some ⟨a,2,none⟩)) (liS (Ot 12) (Ot 13) a 0 2 4 4 underlying134 1 2 2) ?_
 refine go [rd 4 4 0 2 1 h0]<|unN<|go [.s 4 3]<|lwP (.pointer (some ⟨a,3,none⟩)) (liS (Ot 12) (Ot 13) a 0 3 4 4 underlying134 1 3 3)<|go [rd 4 4 0 3 1 h0]<|unN<|g0<|up<|g0 ?_
 exact enR _ [] h0
theorem ut12_31_Contains(a:Nat):HQ 78 [.slice (some ⟨a,0,none⟩) 4 4,iV 4] [Cl a [iV 9,iV 10,iV 11,iV 12] 3] (.bool false) [Cl a [iV 9,iV 10,iV 11,iV 12] 3]:=by
 refine hiS func78 ntmps78 fun g w0 R h0=>g0<|cl1 call134 (ut12_30_Index a) h0 fun _ h11=>g0 ?_
 exact enR _ [] h11
theorem opn_4:HQ 36 [iV 4] [] (.bool false) []:=by
 refine hiS func36 ntmps36 fun g w0 R h0=>g0<|nG (fun q_=> .slice (some ⟨q_,0,none⟩) 4 4) 3 [iV 9,iV 10,iV 11,iV 12] h0 (fun r10 _ h12=>⟨kd [],?_⟩)
 refine g0<|cl1 call78 (ut12_31_Contains r10) h12 fun _ h14=>g0 ?_
 exact enR _ [] h14.a.t1
theorem ut12_32_Index(a:Nat):HQ 134 [.slice (some ⟨a,0,none⟩) 4 4,iV 7] [Cl a [iV 9,iV 10,iV 11,iV 12] 3] (iV (-1)) [Cl a [iV 9,iV 10,iV 11,iV 12] 3]:=by
 refine hiS func134 ntmps134 fun g w0 R h0=>go [.v 1 1 (oJ .i64 (4:Int) 4)]<|unS 39<|go [.s 4 3]<|lwP (pV a) (liS (Ot 12) (Ot 13) a 0 0 4 4 underlying134 1 0 0)<|go [rd 4 4 0 0 1 h0]<|unN<|go [.s 4 3]<|lwP (.pointer (some ⟨a,1,none⟩)) (liS (Ot 12) (Ot 13) a 0 1 4 4 underlying134 1 1 1)<|go [rd 4 4 0 1 1 h0]<|unN<|go [.s 4 3]<|lwP (.pointer (some ⟨a,2,none⟩)) (liS (Ot 12) (Ot 13) a 0 2 4 4 underlying134 1 2 2) ?_
 refine go [rd 4 4 0 2 1 h0]<|unN<|go [.s 4 3]<|lwP (.pointer (some ⟨a,3,none⟩)) (liS (Ot 12) (Ot 13) a 0 3 4 4 underlying134 1 3 3)<|go [rd 4 4 0 3 1 h0]<|unN<|g0<|up<|g0 ?_
 exact enR _ [] h0
theorem ut12_33_Contains(a:Nat):HQ 78 [.slice (some ⟨a,0,none⟩) 4 4,iV 7] [Cl a [iV 9,iV 10,iV 11,iV 12] 3] (.bool false) [Cl a [iV 9,iV 10,iV 11,iV 12] 3]:=by
 refine hiS func78 ntmps78 fun g w0 R h0=>g0<|cl1 call134 (ut12_32_Index a) h0 fun _ h11=>g0 ?_
 exact enR _ [] h11
theorem opn_7:HQ 36 [iV 7] [] (.bool false) []:=by
 refine hiS func36 ntmps36 fun g w0 R h0=>g0<|nG (fun q_=> .slice (some ⟨q_,0,none⟩) 4 4) 3 [iV 9,iV 10,iV 11,iV 12] h0 (fun r10 _ h12=>⟨kd [],?_⟩)
 refine g0<|cl1 call78 (ut12_33_Contains r10) h12 fun _ h14=>g0 ?_
 exact enR _ [] h14.a.t1
theorem ut12_34_Index(a:Nat):HQ 134 [.slice (some ⟨a,0,none⟩) 4 4,iV 8] [Cl a [iV 9,iV 10,iV 11,iV 12] 3] (iV (-1)) [Cl a [iV 9,iV 10,iV 11,iV 12] 3]:=by
 refine hiS func134 ntmps134 fun g w0 R h0=>go [.v 1 1 (oJ .i64 (4:Int) 4)]<|unS 39<|go [.s 4 3]<|lwP (pV a) (liS (Ot 12) (Ot 13) a 0 0 4 4 underlying134 1 0 0)<|go [rd 4 4 0 0 1 h0]<|unN<|go [.s 4 3]<|lwP (.pointer (some ⟨a,1,none⟩)) (liS (Ot 12) (Ot 13) a 0 1 4 4 underlying134 1 1 1)<|go [rd 4 4 0 1 1 h0]<|unN<|go [.s 4 3]<|lwP (.pointer (some ⟨a,2,none⟩)) (liS (Ot 12) (Ot 13) a 0 2 4 4 underlying134 1 2 2) ?_
 refine go [rd 4 4 0 2 1 h0]<|unN<|go [.s 4 3]<|lwP (.pointer (some ⟨a,3,none⟩)) (liS (Ot 12) (Ot 13) a 0 3 4 4 underlying134 1 3 3)<|go [rd 4 4 0 3 1 h0]<|unN<|g0<|up<|g0 ?_
 exact enR _ [] h0
theorem ut12_35_Contains(a:Nat):HQ 78 [.slice (some ⟨a,0,none⟩) 4 4,iV 8] [Cl a [iV 9,iV 10,iV 11,iV 12] 3] (.bool false) [Cl a [iV 9,iV 10,iV 11,iV 12] 3]:=by
 refine hiS func78 ntmps78 fun g w0 R h0=>g0<|cl1 call134 (ut12_34_Index a) h0 fun _ h11=>g0 ?_
 exact enR _ [] h11
theorem opn_8:HQ 36 [iV 8] [] (.bool false) []:=by
 refine hiS func36 ntmps36 fun g w0 R h0=>g0<|nG (fun q_=> .slice (some ⟨q_,0,none⟩) 4 4) 3 [iV 9,iV 10,iV 11,iV 12] h0 (fun r10 _ h12=>⟨kd [],?_⟩)
 refine g0<|cl1 call78 (ut12_35_Contains r10) h12 fun _ h14=>g0 ?_
 exact enR _ [] h14.a.t1
theorem ut12_36_Index(a:Nat):HQ 134 [.slice (some ⟨a,0,none⟩) 4 4,iV 10] [Cl a [iV 9,iV 10,iV 11,iV 12] 3] (iV 1) [Cl a [iV 9,iV 10,iV 11,iV 12] 3]:=by
 refine hiS func134 ntmps134 fun g w0 R h0=>go [.v 1 1 (oJ .i64 (4:Int) 4)]<|unS 39<|go [.s 4 3]<|lwP (pV a) (liS (Ot 12) (Ot 13) a 0 0 4 4 underlying134 1 0 0)<|go [rd 4 4 0 0 1 h0]<|unN<|go [.s 4 3]<|lwP (.pointer (some ⟨a,1,none⟩)) (liS (Ot 12) (Ot 13) a 0 1 4 4 underlying134 1 1 1)<|go [rd 4 4 0 1 1 h0]<|up<|g0 ?_
 exact enR _ [] h0
theorem ut12_37_Contains(a:Nat):HQ 78 [.slice (some ⟨a,0,none⟩) 4 4,iV 10] [Cl a [iV 9,iV 10,iV 11,iV 12] 3] (.bool true) [Cl a [iV 9,iV 10,iV 11,iV 12] 3]:=by
 refine hiS func78 ntmps78 fun g w0 R h0=>g0<|cl1 call134 (ut12_36_Index a) h0 fun _ h11=>g0 ?_
 exact enR _ [] h11
theorem opn_10:HQ 36 [iV 10] [] (.bool true) []:=by
 refine hiS func36 ntmps36 fun g w0 R h0=>g0<|nG (fun q_=> .slice (some ⟨q_,0,none⟩) 4 4) 3 [iV 9,iV 10,iV 11,iV 12] h0 (fun r10 _ h12=>⟨kd [],?_⟩)
 refine g0<|cl1 call78 (ut12_37_Contains r10) h12 fun _ h14=>g0 ?_
 exact enR _ [] h14.a.t1
theorem ut12_38_Index(a:Nat):HQ 134 [.slice (some ⟨a,0,none⟩) 4 4,iV 12] [Cl a [iV 9,iV 10,iV 11,iV 12] 3] (iV 3) [Cl a [iV 9,iV 10,iV 11,iV 12] 3]:=by
 refine hiS func134 ntmps134 fun g w0 R h0=>go [.v 1 1 (oJ .i64 (4:Int) 4)]<|unS 39<|go [.s 4 3]<|lwP (pV a) (liS (Ot 12) (Ot 13) a 0 0 4 4 underlying134 1 0 0)<|go [rd 4 4 0 0 1 h0]<|unN<|go [.s 4 3]<|lwP (.pointer (some ⟨a,1,none⟩)) (liS (Ot 12) (Ot 13) a 0 1 4 4 underlying134 1 1 1)<|go [rd 4 4 0 1 1 h0]<|unN<|go [.s 4 3]<|lwP (.pointer (some ⟨a,2,none⟩)) (liS (Ot 12) (Ot 13) a 0 2 4 4 underlying134 1 2 2) ?_
 refine go [rd 4 4 0 2 1 h0]<|unN<|go [.s 4 3]<|lwP (.pointer (some ⟨a,3,none⟩)) (liS (Ot 12) (Ot 13) a 0 3 4 4 underlying134 1 3 3)<|go [rd 4 4 0 3 1 h0]<|up<|g0 ?_
 exact enR _ [] h0
theorem ut12_39_Contains(a:Nat):HQ 78 [.slice (some ⟨a,0,none⟩) 4 4,iV 12] [Cl a [iV 9,iV 10,iV 11,iV 12] 3] (.bool true) [Cl a [iV 9,iV 10,iV 11,iV 12] 3]:=by
 refine hiS func78 ntmps78 fun g w0 R h0=>g0<|cl1 call134 (ut12_38_Index a) h0 fun _ h11=>g0 ?_
 exact enR _ [] h11
theorem opn_12:HQ 36 [iV 12] [] (.bool true) []:=by
 refine hiS func36 ntmps36 fun g w0 R h0=>g0<|nG (fun q_=> .slice (some ⟨q_,0,none⟩) 4 4) 3 [iV 9,iV 10,iV 11,iV 12] h0 (fun r10 _ h12=>⟨kd [],?_⟩)
 refine g0<|cl1 call78 (ut12_39_Contains r10) h12 fun _ h14=>g0 ?_
 exact enR _ [] h14.a.t1
theorem ut12_40_Index(a:Nat):HQ 134 [.slice (some ⟨a,0,none⟩) 4 4,iV 13] [Cl a [iV 9,iV 10,iV 11,iV 12] 3] (iV (-1)) [Cl a [iV 9,iV 10,iV 11,iV 12] 3]:=by
 refine hiS func134 ntmps134 fun g w0 R h0=>go [.v 1 1 (oJ .i64 (4:Int) 4)]<|unS 39<|go [.s 4 3]<|lwP (pV a) (liS (Ot 12) (Ot 13) a 0 0 4 4 underlying134 1 0 0)<|go [rd 4 4 0 0 1 h0]<|unN<|go [.s 4 3]<|lwP (.pointer (some ⟨a,1,none⟩)) (liS (Ot 12) (Ot 13) a 0 1 4 4 underlying134 1 1 1)<|go [rd 4 4 0 1 1 h0]<|unN<|go [.s 4 3]<|lwP (.pointer (some ⟨a,2,none⟩)) (liS (Ot 12) (Ot 13) a 0 2 4 4 underlying134 1 2 2) ?_
 refine go [rd 4 4 0 2 1 h0]<|unN<|go [.s 4 3]<|lwP (.pointer (some ⟨a,3,none⟩)) (liS (Ot 12) (Ot 13) a 0 3 4 4 underlying134 1 3 3)<|go [rd 4 4 0 3 1 h0]<|unN<|g0<|up<|g0 ?_
 exact enR _ [] h0
theorem ut12_41_Contains(a:Nat):HQ 78 [.slice (some ⟨a,0,none⟩) 4 4,iV 13] [Cl a [iV 9,iV 10,iV 11,iV 12] 3] (.bool false) [Cl a [iV 9,iV 10,iV 11,iV 12] 3]:=by
 refine hiS func78 ntmps78 fun g w0 R h0=>g0<|cl1 call134 (ut12_40_Index a) h0 fun _ h11=>g0 ?_
 exact enR _ [] h11
theorem opn_13:HQ 36 [iV 13] [] (.bool false) []:=by
 refine hiS func36 ntmps36 fun g w0 R h0=>g0<|nG (fun q_=> .slice (some ⟨q_,0,none⟩) 4 4) 3 [iV 9,iV 10,iV 11,iV 12] h0 (fun r10 _ h12=>⟨kd [],?_⟩)
 refine g0<|cl1 call78 (ut12_41_Contains r10) h12 fun _ h14=>g0 ?_
 exact enR _ [] h14.a.t1
theorem ut12_42_Index(a:Nat):HQ 134 [.slice (some ⟨a,0,none⟩) 4 4,iV 14] [Cl a [iV 9,iV 10,iV 11,iV 12] 3] (iV (-1)) [Cl a [iV 9,iV 10,iV 11,iV 12] 3]:=by
 refine hiS func134 ntmps134 fun g w0 R h0=>go [.v 1 1 (oJ .i64 (4:Int) 4)]<|unS 39<|go [.s 4 3]<|lwP (pV a) (liS (Ot 12) (Ot 13) a 0 0 4 4 underlying134 1 0 0)<|go [rd 4 4 0 0 1 h0]<|unN<|go [.s 4 3]<|lwP (.pointer (some ⟨a,1,none⟩)) (liS (Ot 12) (Ot 13) a 0 1 4 4 underlying134 1 1 1)<|go [rd 4 4 0 1 1 h0]<|unN<|go [.s 4 3]<|lwP (.pointer (some ⟨a,2,none⟩)) (liS (Ot 12) (Ot 13) a 0 2 4 4 underlying134 1 2 2) ?_
 refine go [rd 4 4 0 2 1 h0]<|unN<|go [.s 4 3]<|lwP (.pointer (some ⟨a,3,none⟩)) (liS (Ot 12) (Ot 13) a 0 3 4 4 underlying134 1 3 3)<|go [rd 4 4 0 3 1 h0]<|unN<|g0<|up<|g0 ?_
 exact enR _ [] h0
theorem ut12_43_Contains(a:Nat):HQ 78 [.slice (some ⟨a,0,none⟩) 4 4,iV 14] [Cl a [iV 9,iV 10,iV 11,iV 12] 3] (.bool false) [Cl a [iV 9,iV 10,iV 11,iV 12] 3]:=by
 refine hiS func78 ntmps78 fun g w0 R h0=>g0<|cl1 call134 (ut12_42_Index a) h0 fun _ h11=>g0 ?_
 exact enR _ [] h11
theorem opn_14:HQ 36 [iV 14] [] (.bool false) []:=by
 refine hiS func36 ntmps36 fun g w0 R h0=>g0<|nG (fun q_=> .slice (some ⟨q_,0,none⟩) 4 4) 3 [iV 9,iV 10,iV 11,iV 12] h0 (fun r10 _ h12=>⟨kd [],?_⟩)
 refine g0<|cl1 call78 (ut12_43_Contains r10) h12 fun _ h14=>g0 ?_
 exact enR _ [] h14.a.t1
theorem ut12_44_Index(a:Nat):HQ 134 [.slice (some ⟨a,0,none⟩) 4 4,iV 16] [Cl a [iV 9,iV 10,iV 11,iV 12] 3] (iV (-1)) [Cl a [iV 9,iV 10,iV 11,iV 12] 3]:=by
 refine hiS func134 ntmps134 fun g w0 R h0=>go [.v 1 1 (oJ .i64 (4:Int) 4)]<|unS 39<|go [.s 4 3]<|lwP (pV a) (liS (Ot 12) (Ot 13) a 0 0 4 4 underlying134 1 0 0)<|go [rd 4 4 0 0 1 h0]<|unN<|go [.s 4 3]<|lwP (.pointer (some ⟨a,1,none⟩)) (liS (Ot 12) (Ot 13) a 0 1 4 4 underlying134 1 1 1)<|go [rd 4 4 0 1 1 h0]<|unN<|go [.s 4 3]<|lwP (.pointer (some ⟨a,2,none⟩)) (liS (Ot 12) (Ot 13) a 0 2 4 4 underlying134 1 2 2) ?_
 refine go [rd 4 4 0 2 1 h0]<|unN<|go [.s 4 3]<|lwP (.pointer (some ⟨a,3,none⟩)) (liS (Ot 12) (Ot 13) a 0 3 4 4 underlying134 1 3 3)<|go [rd 4 4 0 3 1 h0]<|unN<|g0<|up<|g0 ?_
 exact enR _ [] h0
theorem ut12_45_Contains(a:Nat):HQ 78 [.slice (some ⟨a,0,none⟩) 4 4,iV 16] [Cl a [iV 9,iV 10,iV 11,iV 12] 3] (.bool false) [Cl a [iV 9,iV 10,iV 11,iV 12] 3]:=by
 refine hiS func78 ntmps78 fun g w0 R h0=>g0<|cl1 call134 (ut12_44_Index a) h0 fun _ h11=>g0 ?_
 exact enR _ [] h11
theorem opn_16:HQ 36 [iV 16] [] (.bool false) []:=by
 refine hiS func36 ntmps36 fun g w0 R h0=>g0<|nG (fun q_=> .slice (some ⟨q_,0,none⟩) 4 4) 3 [iV 9,iV 10,iV 11,iV 12] h0 (fun r10 _ h12=>⟨kd [],?_⟩)
 refine g0<|cl1 call78 (ut12_45_Contains r10) h12 fun _ h14=>g0 ?_
 exact enR _ [] h14.a.t1
section
section
variable {P : Program} {Q : Exit → Act → World → Prop} {w : World} {ds : List Deferred} {ops : Array Oper} {n : Nat} {l : Fr}
end
end
theorem qunew(q:Nat)(hf0:0≤(q:Int)-1)(hf1:0≤ -(q:Int)+64):HT prog 65 [iV q] [] (fun v K=> ∃b:Nat,v= .tuple #[pV b,iV 0]∧K= [Cl b ([iV q]++List.replicate 66 (iV 0)) 270]):=by
 refine hiS func65 ntmps65 fun g w0 R h0=>go [.v 1 1 (oF ((q:Int)<1)),.v 1 4 (oF ((q:Int)>64))]<|nP 270 ([iV q]++List.replicate 66 (iV 0)) h0 (fun r10 _ h12=> ?_)
 refine g0 ?_
 exact en (.tuple #[pV r10,iV 0]) [] ⟨_,_,rfl,⟨r10,rfl,rfl⟩,h12⟩
theorem ut9_1_valid(b a:Nat)(c:Int)(hf0:0≤(a:Int)-1):HQ 252 [pV b] [Cl b ([iV a,iV c]++List.replicate 65 (iV 0)) 270] (.bool true) [Cl b ([iV a,iV c]++List.replicate 65 (iV 0)) 270]:=by
 refine hiS func252 ntmps252 fun g w0 R h0=>go [rd 1 6 0 0 1 h0,.v 1 7 (oT ((a:Int)>0))] ?_
 exact enR _ [] h0
theorem quroom0(b q:Nat)(f:Int)(hf0:0≤(q:Int)-1)(hf1:0≤ -(q:Int)+64):HQ 292 [pV b] [Cl b ([iV q,iV f]++List.replicate 65 (iV 0)) 270] (iV q) [Cl b ([iV q,iV f]++List.replicate 65 (iV 0)) 270]:=by
 refine hiS func292 ntmps292 fun g w0 R h0=>g0<|cl1 call252 (ut9_1_valid b q f om) h0 fun _ h11=>g0<|dw (fls [0,1,2,3,4,5,6,7,8,9] Tr.nil) h11 fun _ h13=>go [rd 3 3 0 0 1 h13,rd 3 7 0 2 1 h13,.v 3 8 (oI ((q:Int)-0) (q:Int))] ?_
 exact enR (iV q) [] h13
theorem each0_it(r b q:Nat)(f:Int)(hf0:0≤(q:Int)-1)(hf1:0≤ -(q:Int)+64):IT prog 449 [pV r] 0 (fun _=> [iV 0,iV 0]) [Cl r [pV b] 162,Cl b ([iV q,iV f]++List.replicate 65 (iV 0)) 270]:=by
 refine it_in 28 (fun k_=>([(0,.func (Fn.yield k_) #[] #[]),(1,pV r)]:Fr)) func449 kr ntmps449 rfl (fun _=>rfl) ?_
 intro g w0 R k_ J_ E_ hY h0
 have h1:sat g _ (J_ 0::_):=h0
 change WP _ _ (CA f449 []) _ (mk 28 ([(0,.func (Fn.yield k_) #[] #[]),(1,pV r)]:Fr)) _
 refine ySq ?_
 refine yPl [0] ?_
 refine yB0 [] [0] [(3,iV 0)] (.mk ?_)
 refine yK [(0,.func (Fn.yield k_) #[] #[]),(1,pV r),(3,iV 0)] fun lr2=> ?_
 refine yBk 0 ?_
 refine gi_unr (x:=CA f449 [1,0,0]) 40 kr ?_
 refine ySq ?_
 refine ySq ?_
 refine yPl [0,1,2,3,4,5,6,7,8,9] ?_
 refine yBb [1,2,3,4,5,6,7,8,9] [(4,pV b)] [e2 0 [pV b]] [(0,⟨r,0,none⟩,pV b)] [] trivial (kC (sat_cell h1 1 rfl rfl) nC) ?_
 have h3:=h1.b.t4
 refine yA ?_
 refine yCl 5 call252 (ut9_1_valid b q f om) h3 ?_
 rintro v K w4 (⟨rfl,rfl⟩) h5
 refine⟨_,rfl,?_⟩
 have h6:=ap1 h5
 refine yBb [] [(13,.bool false),(12,.bool false),(11,iV 0),(10,.pointer (some ⟨b,2,none⟩)),(9,pV b),(8,pV b),(7,iV 0),(6,.bool true)] [e0 2,e0 3,e2 4 [pV b],e0 5,e0 6,e2 7 [iV 0],e0 8,e0 9] [(7,⟨b,2,none⟩,iV 0),(4,⟨r,0,none⟩,pV b)] [] trivial (kC (sat_cell h6 0 rfl rfl) (kC (sat_cell h6 2 rfl rfl) nC)) (.mk ?_)
 refine yK [(0,.func (Fn.yield k_) #[] #[]),(1,pV r),(3,iV 0),(13,.bool false)] fun lr7=> ?_
 refine yCf ?_
 refine yEx 0 ?_
 repeat (first|simp only[Exit.inBlock]|simp only[Exit.then])
 refine hi_outn [] (.tuple #[]) [] kr (by intro q hq;cases hq) ⟨⟨_,rfl⟩,?_⟩
 have h8:=h6.b.b.t4
 have he_:0=0:=rfl
 exact .inl (he_▸h8)
theorem ut9_4_each(a:Nat):HT prog 412 [pV a] [] (fun v K=> ∃r10:Nat,v= .func (Fn.func 449) #[] #[pV r10]∧K= [Cl r10 [pV a] 162]):=by
 refine hiS func412 ntmps412 fun g w0 R h0=>g0<|nP 162 [pV a] h0 (fun r10 _ h12=> ?_)
 refine g0 ?_
 exact en (.func (Fn.func 449) #[] #[pV r10]) [] ⟨_,_,rfl,⟨r10,rfl,rfl⟩,h12⟩
theorem qufind0(b q:Nat)(f k:Int)(hf0:0≤(q:Int)-1)(hf1:0≤ -(q:Int)+64):HQ 369 [pV b,iV k] [Cl b ([iV q,iV f]++List.replicate 65 (iV 0)) 270] (iV (-1)) [Cl b ([iV q,iV f]++List.replicate 65 (iV 0)) 270]:=by
 refine hiS func369 ntmps369 fun g w0 R h0=>g0<|nP 3 [iV k] h0 (fun r10 _ h12=> ?_)
 refine nP 3 [iV 0] h12 (fun r13 _ h15=> ?_)
 refine g0<|cP call412 (ut9_4_each b) h15 ?_
 rintro v K _ (⟨r16,rfl,rfl⟩) h18
 have h20:=(ap1 h18).c.a.t5
 refine g0 ?_
 refine rfS (N:=0) (fun i K=>K= []) (fun c _ K=>False) call449 (each0_it r16 b q f om om) rfl h20 ?_ ?_ ?_
 · intro i_ hi_;exact absurd hi_ (Nat.not_lt_zero _)
 ·
  rintro D21 w22 K_ ⟨rfl⟩ h23
  have h24:sat g _ (pt D21 (Obj.deferred (some []))::_):=h23
  have h25:=h24.c.t6
  refine g0<|sA [iV (-1)] h25 fun _ h27=>g0 ?_
  refine enD (iV (-1)) h27.a.t6 (fun w30 h29=> [rd 0 0 1 0 1 h29]) (fun w30 h29=> ?_) [iV (-1)] [(⟨r13,0,none⟩,iV (-1))]
  exact⟨_,_,rfl,⟨rfl,rfl⟩,(tk2 (sf1 (sf5 h29.c.t6)))⟩
 intro _ _ _ _ _ _ hf_;exact hf_.elim
theorem qurem0(b q:Nat)(f k:Int)(hf0:0≤(q:Int)-1)(hf1:0≤ -(q:Int)+64):HQ 312 [pV b,iV k] [Cl b ([iV q,iV f]++List.replicate 65 (iV 0)) 270] (.bool false) [Cl b ([iV q,iV f]++List.replicate 65 (iV 0)) 270]:=by
 refine hiS func312 ntmps312 fun g w0 R h0=>g0<|cl1 call369 (qufind0 b q f k om om) h0 fun _ h11=>g0 ?_
 exact enR _ [] h11
theorem qupoll0(b q:Nat)(f:Int)(hf0:0≤(q:Int)-1)(hf1:0≤ -(q:Int)+64):HQ 371 [pV b] [Cl b ([iV q,iV f]++List.replicate 65 (iV 0)) 270] (.tuple #[iV 0,.bool false]) [Cl b ([iV q,iV f]++List.replicate 65 (iV 0)) 270]:=by
 refine hiS func371 ntmps371 fun g w0 R h0=>g0<|cl1 call252 (ut9_1_valid b q f om) h0 fun _ h11=>go [rd 1 7 0 2 1 h11] ?_
 exact enR _ [] h11
section
section
variable {α β : Type} [DecidableEq α] {k a : α} {v u : β} {E E' : List (α × β)} {o : Option β}
theorem gg_hit(h:k=a):gget ((a,v)::E) k=some v:=by simp[gget,h]
theorem gg_miss(h:k≠a)(r:gget E k=o):gget ((a,v)::E) k=o:=by simp[gget,h,r]
theorem gs_hit(h:k=a):gset ((a,u)::E) k v=(a,v)::E:=by simp[gset,h]
theorem gs_miss(h:k≠a)(r:gset E k v=E'):gset ((a,u)::E) k v=(a,u)::E':=by simp[gset,h,r]
theorem gd_hit(h:k=a):gdel ((a,u)::E) k=E:=by simp[gdel,h]
end
def kRf(k:Int×Int):Value:= .agg #[iV k.1,uV k.2]
def vF(f:Nat):Value:= .func (.func f) #[] #[]
structure KeyOk2 (P:Program) (key:TypeId):Prop where
 eq: ∀(a b:Int×Int) (w:World),(Op.equal key (kRf a) (kRf b)).run P w= .ok (decide (a=b)) w
 ck: ∀(a:Int×Int) (e:Bool) (w:World),(Instr.checkKey e 10000 key (kRf a)).run P w= .ok () w
 st: ∃fs,P.underlying key=some (.struct fs)
section
variable {β : Type} {P : Program} {w : World} {key : TypeId}
theorem run_ask2(K:KeyOk2 P key)(ve:β→Value)(k:Int×Int): ∀(es:List MapEntry) (E:List ((Int×Int)×β)) (i:Nat),(es.map fun e=>(e.key,e.val))=E.map (gEnc kRf ve)→(Instr.findAsking key (kRf k) es i).run P w= .ok ((gfind E k i).map fun q=>(q.1,ve q.2)) w
 | [],E,i,h=>by
  have:E= []:=by cases E;rfl;simp at h
  subst this
  simp[Instr.findAsking,gfind]
 |e::es,E,i,h=>by
  match E,h with
  |(a,v)::E,h=>
   simp only[List.map_cons,List.cons.injEq,gEnc,Prod.mk.injEq] at h
   obtain⟨⟨h1,h2⟩,h3⟩:=h
   have ih:=run_ask2 K ve k es E (i+1) h3
   simp only[Instr.findAsking,Sem.run_bind,h1,K.eq,Result.andThen_ok,gfind]
   by_cases hk:k=a
   · subst hk
     simp[h2]
   · simp only[hk,decide_false,Bool.false_eq_true,if_false]
     exact ih
theorem same_kRf(k:Int×Int):Instr.sameBits 10000 (kRf k) (kRf k)=true:=by
 have h: ∀d:Nat,Instr.sameBits (d+1+1) (kRf k) (kRf k)=true:=fun d=>by simp[kRf,Instr.sameBits]
 exact h 9998
theorem kyOf2(K:KeyOk2 P key):KyOk P key kRf where
 fk ve k es E w h:=by
  obtain⟨fs,hs⟩:=K.st
  unfold Instr.findKey
  simp only[Sem.run_bind,run_underlying hs,Result.andThen_ok]
  cases es with
  |nil=>
   have:E= []:=by cases E;rfl;simp at h
   subst this
   simp[Instr.findNow,gfind]
  |cons e es=>
   have h1:Instr.findNow (.struct fs) (kRf k) (e::es) 0=none:=by simp[Instr.findNow,Instr.sameNow]
   rw[h1]
   exact run_ask2 K ve k (e::es) E 0 h
 ck a e w:=K.ck a e w
 sm a:=same_kRf a
end
section
variable {α β : Type} [DecidableEq α] {kv : α → Value} {ve : β → Value} {P : Program} {g w : World} {L : List Assn} {n : Nat} {l : Fr} {o : Oper} {key elem b : Nat} {E : List (α × β)}
theorem law_lkH{t:Nat}{m x:Operand}{z:Value}(ho:o.op= .lookup t m x true)(ht:P.underlying t=some (.map key elem))(K:KyOk P key kv)(hz:(P.info? elem).map (·.zero)=some (some z))(k:α)(hm:fe n l m= .map (some b))(hx:fe n l x=kv k){j:Nat}(hs:sat g w L)(hj:L[j]? =some (Gp kv ve b E))(v:Value)(u:β)
(hg:gget E k=some u)(hv:ve u=v):(execOp (fe n l) o).run P w= .ok (.value (.tuple #[v,.bool true])) w:=law_lookupOk ho ht K hz k hm hx hs hj v true (by rw[hg];exact⟨hv,rfl⟩)
theorem law_lkN{t:Nat}{m x:Operand}{z:Value}(ho:o.op= .lookup t m x true)(ht:P.underlying t=some (.map key elem))(K:KyOk P key kv)(hz:(P.info? elem).map (·.zero)=some (some z))(k:α)(hm:fe n l m= .map (some b))(hx:fe n l x=kv k){j:Nat}(hs:sat g w L)(hj:L[j]? =some (Gp kv ve b E))
(hg:gget E k=none):(execOp (fe n l) o).run P w= .ok (.value (.tuple #[z,.bool false])) w:=law_lookupOk ho ht K hz k hm hx hs hj z false (by rw[hg];exact⟨rfl,rfl⟩)
end
variable {ds : List Deferred}
section
variable {α β : Type} [DecidableEq α] {kv : α → Value} {ve : β → Value} {P : Program} {Q : Exit → Act → World → Prop} {g w : World} {L : List Assn} {n : Nat} {l : Fr} {o : Oper} {N : Act → World → Prop} {key elem b : Nat} {E : List (α × β)}
theorem ag_insert{t:Nat}{m x y:Operand}(ho:o.op= .insert t m x y)(hd:o.dst=none)(ht:P.underlying t=some (.map key elem))(K:KyOk P key kv)(k:α)(v:β)(hm:fe n l m= .map (some b))(hx:fe n l x=kv k)(hy:fe n l y=ve v)(hs:sat g w (Gp kv ve b E::L))
 (E':List (α×β))(hE:gset E k v=E')(h: ∀w',sat g w' (Gp kv ve b E'::L)→N (mkd ds n l) w'):OP P o (mkd ds n l) w N Q:=by
 have h1:OP P {o with op:= .mapUpdate t m x y} (mkd ds n l) w N Q:=ag_mapUpdate rfl hd ht K k v hm hx hy hs E' hE h
 refine⟨?_⟩
 have h2:=h1.out
 unfold Oper.wp at h2 ⊢
 have e: ∀ρ:Operand→Value,execOp ρ o=execOp ρ {o with op:= .mapUpdate t m x y}:=fun ρ=>by
  unfold execOp
  simp[ho]
 rw[e]
 exact h2
end
end
theorem kyRf:KyOk prog 203 kRf:=by
 have hu:prog.underlying 203=some _:=underlying203
 refine kyOf2 ⟨fun a b w=> ?_,fun a e w=> ?_,⟨_,underlying203⟩⟩
 · obtain⟨a0,a1⟩:=a
   obtain⟨c0,c1⟩:=b
   show (Op.equalIn 10000 203 (.agg #[iV a0,uV a1]) (.agg #[iV c0,uV c1])).run prog w= .ok (decide ((a0,a1)=(c0,c1))) w
   by_cases h0:a0=c0
   · by_cases h1:a1=c1
     · subst h0;subst h1;simp[go_sem]
     · subst h0;simp[go_sem,h1]
   · simp[go_sem,h0]
 · have h: ∀d:Nat,(Instr.checkKey e (d+1+1) 203 (kRf a)).run prog w= .ok () w:=fun d=>by
    simp[kRf,Instr.checkKey,go_sem]
   exact h 9998
def Rq0_p(b q:Nat)(f:Int)(o wq cl m1 m2 m3:Nat):List Assn:= [Cl b [pV o,pV wq,pV cl,iV 256] 170,Cl o [iV 256,Value.map (some m1),Value.map (some m2)] 267,Gp kI kRf m1 ([]:List (Int×(Int×Int))),Gp kRf kI m2 ([]:List ((Int×Int)×Int)),Cl wq ([iV q,iV f]++List.replicate 65 (iV 0)) 270,Cl cl [Value.map (some m3)] 273,Gp kI kI m3 ([]:List (Int×Int))]
def Rq0(b q:Nat)(f:Int):Assn:=fun h=> ∃o:Nat,∃wq:Nat,∃cl:Nat,∃m1:Nat,∃m2:Nat,∃m3:Nat,(1≤q)∧(q≤64)∧star (Rq0_p b q f o wq cl m1 m2 m3) h
theorem Rq0_open{g w:World}{L_:List Assn}{b:Nat}{q:Nat}{f:Int}(h:sat g w (Rq0 b q f::L_)): ∃o:Nat,∃wq:Nat,∃cl:Nat,∃m1:Nat,∃m2:Nat,∃m3:Nat,(1≤q)∧(q≤64)∧sat g w (Rq0_p b q f o wq cl m1 m2 m3++L_):=by
 obtain⟨⟨o,wq,cl,m1,m2,m3⟩,hp,h2⟩:=sat_open (X:=Nat×Nat×Nat×Nat×Nat×Nat) (p:=fun q_=>(1≤q)∧(q≤64)) (B:=fun q_=>star (Rq0_p b q f q_.1 q_.2.1 q_.2.2.1 q_.2.2.2.1 q_.2.2.2.2.1 q_.2.2.2.2.2)) h (fun _ hk=>by obtain⟨o,wq,cl,m1,m2,m3,hp0,hp1,hk⟩:=hk;exact⟨(o,wq,cl,m1,m2,m3),⟨hp0,hp1⟩,hk⟩)
 exact⟨o,wq,cl,m1,m2,m3,hp.1,hp.2,sat_unstar h2⟩
theorem Rq0_close{g w:World}{L_:List Assn}(b q:Nat)(f:Int)(o wq cl m1 m2 m3:Nat)(hp0:1≤q)(hp1:q≤64)(h:sat g w (Rq0_p b q f o wq cl m1 m2 m3++L_)):sat g w (Rq0 b q f::L_):=sat_imp (sat_star h) fun _ hk=>⟨o,wq,cl,m1,m2,m3,hp0,hp1,hk⟩
def Rq1_p(b q id s:Nat)(gn:Int)(o wq cl m1 m2 m3:Nat):List Assn:= [Cl b [pV o,pV wq,pV cl,iV 256] 170,Cl o [iV 256,Value.map (some m1),Value.map (some m2)] 267,Gp kI kRf m1 ([((id:Int),((s:Int),gn))]:List (Int×(Int×Int))),Gp kRf kI m2 ([(((s:Int),gn),(id:Int))]:List ((Int×Int)×Int)),Cl wq ([iV q]++List.replicate 66 (iV 0)) 270,Cl cl [Value.map (some m3)] 273,Gp kI kI m3 ([((id:Int),1)]:List (Int×Int))]
def Rq1(b q id s:Nat)(gn:Int):Assn:=fun h=> ∃o:Nat,∃wq:Nat,∃cl:Nat,∃m1:Nat,∃m2:Nat,∃m3:Nat,(1≤q)∧(q≤64)∧(id<256)∧(s<256)∧(1≤gn)∧star (Rq1_p b q id s gn o wq cl m1 m2 m3) h
theorem Rq1_open{g w:World}{L_:List Assn}{b:Nat}{q:Nat}{id:Nat}{s:Nat}{gn:Int}(h:sat g w (Rq1 b q id s gn::L_)): ∃o:Nat,∃wq:Nat,∃cl:Nat,∃m1:Nat,∃m2:Nat,∃m3:Nat,(1≤q)∧(q≤64)∧(id<256)∧(s<256)∧(1≤gn)∧sat g w (Rq1_p b q id s gn o wq cl m1 m2 m3++L_):=by
 obtain⟨⟨o,wq,cl,m1,m2,m3⟩,hp,h2⟩:=sat_open (X:=Nat×Nat×Nat×Nat×Nat×Nat) (p:=fun q_=>(1≤q)∧(q≤64)∧(id<256)∧(s<256)∧(1≤gn)) (B:=fun q_=>star (Rq1_p b q id s gn q_.1 q_.2.1 q_.2.2.1 q_.2.2.2.1 q_.2.2.2.2.1 q_.2.2.2.2.2)) h (fun _ hk=>by obtain⟨o,wq,cl,m1,m2,m3,hp0,hp1,hp2,hp3,hp4,hk⟩:=hk;exact⟨(o,wq,cl,m1,m2,m3),⟨hp0,hp1,hp2,hp3,hp4⟩,hk⟩)
 exact⟨o,wq,cl,m1,m2,m3,hp.1,hp.2.1,hp.2.2.1,hp.2.2.2.1,hp.2.2.2.2,sat_unstar h2⟩
theorem Rq1_close{g w:World}{L_:List Assn}(b q id s:Nat)(gn:Int)(o wq cl m1 m2 m3:Nat)(hp0:1≤q)(hp1:q≤64)(hp2:id<256)(hp3:s<256)(hp4:1≤gn)(h:sat g w (Rq1_p b q id s gn o wq cl m1 m2 m3++L_)):sat g w (Rq1 b q id s gn::L_):=sat_imp (sat_star h) fun _ hk=>⟨o,wq,cl,m1,m2,m3,hp0,hp1,hp2,hp3,hp4,hk⟩
theorem ut10_1_New:HT prog 64 [iV 256] [] (fun v K=> ∃r16:Nat,∃r10:Nat,∃r13:Nat,v= .tuple #[pV r16,iV 0]∧K= [Cl r16 [iV 256,.map (some r10),.map (some r13)] 267,Gp kI kRf r10 ([]:List (Int×(Int×Int))),Gp kRf kI r13 ([]:List ((Int×Int)×Int))]):=by
 refine hiS func64 ntmps64 fun g w0 R h0=>g0 ?_
 refine actG ?_
 refine ag_makeMap (t:=264) (d:=11) kI kRf kr kr rfl h0 ?_
 intro r10 _ h12
 refine nxA ?_
 refine actG ?_
 refine ag_makeMap (t:=265) (d:=12) kRf kI kr kr rfl h12 ?_
 intro r13 _ h15
 refine nxA<|g0<|nP 267 [iV 256,.map (some r10),.map (some r13)] h15 (fun r16 _ h18=> ?_)
 refine g0 ?_
 exact en (.tuple #[pV r16,iV 0]) [] ⟨_,_,rfl,⟨r16,r10,r13,rfl,rfl⟩,h18.b.a.t4⟩
theorem ut10_2_New:HT prog 66 [] [] (fun v K=> ∃r13:Nat,∃r10:Nat,v=pV r13∧K= [Cl r13 [.map (some r10)] 273,Gp kI kI r10 ([]:List (Int×Int))]):=by
 refine hiS func66 ntmps66 fun g w0 R h0=>g0 ?_
 refine actG ?_
 refine ag_makeMap (t:=271) (d:=1) kI kI kr kr rfl h0 ?_
 intro r10 _ h12
 refine nxA<|g0<|nP 273 [.map (some r10)] h12 (fun r13 _ h15=> ?_)
 refine g0 ?_
 exact en (pV r13) [] ⟨_,_,rfl,⟨r13,r10,rfl,rfl⟩,h15⟩
theorem rqnew(q:Nat)(hf0:0≤(q:Int)-1)(hf1:0≤ -(q:Int)+64):HT prog 30 [iV 256,iV q] [] (fun v K=> ∃b:Nat,v= .tuple #[pV b,iV 0]∧K= [Rq0 b q 0]):=by
 refine hiS func30 ntmps30 fun g w0 R h0=>go [.v 1 8 (oF ((q:Int)<1)),.v 1 12 (oF ((q:Int)>64))]<|cP call64 ut10_1_New h0 ?_
 rintro v K _ (⟨r10,r11,r12,rfl,rfl⟩) h14
 have h15:=ap3 h14
 refine g0<|cP call65 (qunew q om om) h15 ?_
 rintro v K _ (⟨b16,rfl,rfl⟩) h18
 have h19:=ap1 h18
 refine g0<|cP call66 ut10_2_New h19 ?_
 rintro v K _ (⟨r20,r21,rfl,rfl⟩) h23
 have h24:=ap2 h23
 refine g0<|nP 170 [pV r10,pV b16,pV r20,iV 256] h24 (fun r25 w26 h27=> ?_)
 refine g0 ?_
 have h29:sat g _ (Rq0 r25 q 0::_):=Rq0_close r25 q 0 r10 b16 r20 r11 r12 r21 om om h27.c.f.f.f.d.t8
 exact en (.tuple #[pV r25,iV 0]) [] ⟨_,_,rfl,⟨r25,rfl,rfl⟩,h29⟩
theorem ut10_3_valid(a b c d:Nat):HQ 117 [pV a] [Cl a [pV b,pV c,pV d,iV 256] 170] (.bool true) [Cl a [pV b,pV c,pV d,iV 256] 170]:=by
 refine hiS func117 ntmps117 fun g w0 R h0=>go [rd 1 6 0 3 1 h0] ?_
 exact enR _ [] h0
theorem rqroom0(b q:Nat)(f:Int):HQ 214 [pV b] [Rq0 b q f] (iV q) [Rq0 b q f]:=by
 refine hiS func214 ntmps214 fun g w0 R h0=> ?_
 obtain⟨o10,wq11,cl12,m13,m14,m15,hp16,hp17,h18⟩:=Rq0_open h0
 have h19:sat g _ (Cl b [pV o10,pV wq11,pV cl12,iV 256] 170::_):=h18
 refine g0<|cl1 call117 (ut10_3_valid b o10 wq11 cl12) h19 fun _ h21=> ?_
 have h22:=h21.d.t8
 refine go [rd 3 4 0 1 1 h21]<|cl1 call292 (quroom0 wq11 q f om om) h22 fun w23 h24=>g0 ?_
 have h26:sat g _ (Rq0 b q f::_):=Rq0_close b q f o10 wq11 cl12 m13 m14 m15 hp16 hp17 h24.d.d.d.d.t8
 exact enR (iV q) [] h26
theorem ut10_4_made(a b c:Nat):HQ 249 [pV a] [Cl a [iV 256,.map (some b),.map (some c)] 267] (.bool true) [Cl a [iV 256,.map (some b),.map (some c)] 267]:=by
 refine hiS func249 ntmps249 fun g w0 R h0=>go [rd 1 6 0 0 1 h0] ?_
 exact enR _ [] h0
theorem ut10_5_By(e f:Nat)(i:Int)(k c:Nat):HQ 293 [pV e,.agg #[iV f,uV i]] [Cl e [iV 256,.map (some k),.map (some c)] 267,Gp kRf kI c ([]:List ((Int×Int)×Int))] (.tuple #[iV 0,.bool false]) [Cl e [iV 256,.map (some k),.map (some c)] 267,Gp kRf kI c ([]:List ((Int×Int)×Int))]:=by
 refine hiS func293 ntmps293 fun g w0 R h0=>g0<|nP 203 [iV f,uV i] h0 (fun _ _ h12=> ?_)
 have h13:=h12.a.t4
 refine g0<|cl1 call249 (ut10_4_made e k c) h13 fun _ h15=>g0<|dw (fls [0,1,2,3,4] (Tr.an 5 (fls [6,7,8,9,10] Tr.nil))) h15 fun _ h17=>go [rd 3 3 0 2 1 h17,rd 3 4 1 0 2 h17] ?_
 refine actG ?_
 refine act_law (d:=17) (.tuple #[iV 0,.bool false]) kr rfl (law_lkN (t:=265) (z:=iV 0) (m:=Ot 15) (x:=Ot 16) (kv:=kRf) (ve:=kI) kr underlying265 kyRf kr ((f:Int),i) kr kr (j:=2) h17 rfl rfl) ?_
 refine⟨kd [],nxG ?_⟩
 refine g0 ?_
 exact enR _ [] (tk3 (sf2 (sf2 (sf3 h17.b.a.t4))))
theorem ut10_6_find(c a b:Nat)(hf0:0≤ -(a:Int)+255):HQ 385 [pV c,iV a] [Cl c [.map (some b)] 273,Gp kI kI b ([]:List (Int×Int))] (.tuple #[iV 0,iV 5]) [Cl c [.map (some b)] 273,Gp kI kI b ([]:List (Int×Int))]:=by
 refine hiS func385 ntmps385 fun g w0 R h0=>go [rd 1 6 0 0 1 h0,.v 3 1 (oF ((a:Int)<0)),.v 3 4 (oF ((a:Int)≥256)),rd 5 3 0 0 1 h0] ?_
 refine actG ?_
 refine act_law (d:=31) (.tuple #[iV 0,.bool false]) kr rfl (law_lkN (t:=271) (z:=iV 0) (m:=Ot 29) (x:=Ot 30) (kv:=kI) (ve:=kI) kr underlying271 kyI kr (a:Int) kr kr (j:=1) h0 rfl rfl) ?_
 refine nxA<|g0 ?_
 exact enR _ [] h0
theorem ut10_7_Get(c d a:Nat)(hf0:0≤ -(d:Int)+255):HQ 383 [pV c,iV d] [Cl c [.map (some a)] 273,Gp kI kI a ([]:List (Int×Int))] (.tuple #[.agg #[iV 0,iV 0],iV 5]) [Cl c [.map (some a)] 273,Gp kI kI a ([]:List (Int×Int))]:=by
 refine hiS func383 ntmps383 fun g w0 R h0=>g0<|nP 498 [iV 0,iV 0] h0 (fun _ _ h12=> ?_)
 have h13:=h12.b.b.t4
 refine g0<|cl2 call385 (ut10_6_find c d a om) h13 fun _ h15=> ?_
 have h16:=h15.b.t4
 refine g0<|sA [iV 0,iV 0] h16 fun _ h18=>g0 ?_
 exact enR _ [rd 0 0 0 0 2 h18] (tk3 (sf2 (sf2 (sf3 h18.b.b.t4))))
theorem ut10_8_free(e f i j a d:Nat)(hf0:0≤ -(f:Int)+255):HQ 311 [pV e,iV f] [Cl e [pV i,pV j,pV a,iV 256] 170,Cl a [.map (some d)] 273,Gp kI kI d ([]:List (Int×Int))] (.bool true) [Cl e [pV i,pV j,pV a,iV 256] 170,Cl a [.map (some d)] 273,Gp kI kI d ([]:List (Int×Int))]:=by
 refine hiS func311 ntmps311 fun g w0 R h0=> ?_
 have h10:=h0.b.b.t4
 refine go [rd 1 4 0 2 1 h0]<|cl2 call383 (ut10_7_Get a f d om) h10 fun _ h12=>g0<|nP 498 [iV 0,iV 0] h12 (fun _ _ h15=> ?_)
 refine sA [iV 0,iV 0] h15 fun _ h17=>g0 ?_
 exact enR _ [] (tk4 (sf3 (sf3 (sf3 (sf4 h17.b.b.c.t5)))))
theorem ut10_9_check(a b c d:Nat)(hf0:0≤ -(b:Int)+255):HQ 368 [pV a,iV b] [Cl a [iV 256,.map (some c),.map (some d)] 267] (iV 0) [Cl a [iV 256,.map (some c),.map (some d)] 267]:=by
 refine hiS func368 ntmps368 fun g w0 R h0=>g0<|cl1 call249 (ut10_4_made a c d) h0 fun _ h11=>go [.v 3 1 (oF ((b:Int)<0)),rd 3 7 0 0 1 h11,.v 3 8 (oF ((b:Int)≥256))] ?_
 exact enR _ [] h11
theorem ut10_10_Add(l f b:Nat)(e:Int)(i k:Nat)(hf0:0≤ -(f:Int)+255)(hf1:0≤ -(b:Int)+255)(hf2:0≤e-1):HQ 348 [pV l,iV f,.agg #[iV b,uV e]] [Cl l [iV 256,.map (some i),.map (some k)] 267,Gp kRf kI k ([]:List ((Int×Int)×Int)),Gp kI kRf i ([]:List (Int×(Int×Int)))] (iV 0) [Cl l [iV 256,.map (some i),.map (some k)] 267,Gp kRf kI k ([(((b:Int),e),(f:Int))]:List ((Int×Int)×Int)),Gp kI kRf i ([((f:Int),((b:Int),e))]:List (Int×(Int×Int)))]:=by
 refine hiS func348 ntmps348 fun g w0 R h0=>g0<|nP 203 [iV b,uV e] h0 (fun r10 _ h12=> ?_)
 have h13:=h12.a.t5
 refine g0<|cl1 call368 (ut10_9_check l f i k om) h13 fun _ h15=>go [rd 4 1 1 0 1 h15,.v 4 2 (oF ((b:Int)<0)),rd 4 5 1 0 1 h15,.v 4 6 (oF ((b:Int)≥256)),rd 4 10 1 1 1 h15,.v 4 11 (qeF e 0),rd 6 3 0 1 1 h15] ?_
 refine actG ?_
 refine act_law (d:=37) (.tuple #[.agg #[iV 0,uV 0],.bool false]) kr rfl (law_lkN (t:=264) (z:= .agg #[iV 0,uV 0]) (m:=Ot 35) (x:=Ot 36) (kv:=kI) (ve:=kRf) kr underlying264 kyI kr (f:Int) kr kr (j:=3) h15 rfl rfl) ?_
 refine nxA<|g0<|nP 203 [iV 0,uV 0] h15 (fun r16 _ h18=> ?_)
 refine sA [iV 0,uV 0] h18 fun _ h20=>g0<|dw (fls [0,1,2,3,4] (Tr.an 5 (fls [6,7,8,9,10] Tr.nil))) h20 fun _ h22=>go [rd 7 3 1 2 1 h22,rd 7 4 2 0 2 h22] ?_
 refine actG ?_
 refine act_law (d:=46) (.tuple #[iV 0,.bool false]) kr rfl (law_lkN (t:=265) (z:=iV 0) (m:=Ot 44) (x:=Ot 45) (kv:=kRf) (ve:=kI) kr underlying265 kyRf kr ((b:Int),e) kr kr (j:=3) h22 rfl rfl) ?_
 refine⟨kd [],nxG ?_⟩
 refine g0<|dw (fls [0,1,2,3,4,5,6,7,8,9,10,11] (Tr.an 12 (Tr.fl 13 (Tr.an 14 (Tr.an 15 (Tr.fl 16 (Tr.an 17 Tr.nil))))))) h22 fun _ h24=> ?_
 have h25:=h24.d.t6
 refine go [rd 10 3 1 1 1 h24,rd 10 8 1 2 1 h24,rd 10 9 2 0 2 h24,rd 10 10 2 0 2 h24] ?_
 refine actG ?_
 refine ag_entry (t:=264) (d:=65) (m:=Ot 56) (x:=Ot 57) (kv:=kI) (ve:=kRf) (z0:=(0,0)) kr kr rfl underlying264 kyI kr (f:Int) kr kr h25 (0,0) (.inr ⟨rfl,rfl⟩) ?_
 intro z26 w27 h29
 have h28:sat g _ (Ge kI kRf i ([((f:Int),(0,0))]:List (Int×(Int×Int))) (f:Int) z26::_):=h29
 refine⟨kd [rd 0 10 3 0 2 h28,rd 0 9 3 0 2 h28],nxG ?_⟩
 refine g0 ?_
 refine actG ?_
 refine ag_entryStore (t:=264) (m:=Ot 56) (x:=Ot 66) (y:=Ot 63) (kv:=kI) (ve:=kRf) kr kr ((b:Int),e) kr kr kr h28 ([((f:Int),((b:Int),e))]:List (Int×(Int×Int))) (gs_hit rfl) ?_
 intro _ h31
 refine⟨kd [rd 0 9 3 0 2 h31],nxN ?_⟩
 have h32:=h31.d.t6
 refine actG ?_
 refine ag_entry (t:=265) (d:=67) (m:=Ot 61) (x:=Ot 62) (kv:=kRf) (ve:=kI) (z0:=0) kr kr rfl underlying265 kyRf kr ((b:Int),e) kr kr h32 0 (.inr ⟨rfl,rfl⟩) ?_
 intro z33 w34 h36
 have h35:sat g _ (Ge kRf kI k ([(((b:Int),e),0)]:List ((Int×Int)×Int)) ((b:Int),e) z33::_):=h36
 refine⟨kd [],nxG ?_⟩
 refine g0 ?_
 refine actG ?_
 refine ag_entryStore (t:=265) (m:=Ot 61) (x:=Ot 68) (y:=Ot 64) (kv:=kRf) (ve:=kI) kr kr (f:Int) kr kr kr h35 ([(((b:Int),e),(f:Int))]:List ((Int×Int)×Int)) (gs_hit rfl) ?_
 intro _ h38
 refine⟨kd [],nxN ?_⟩
 refine g0 ?_
 exact enR _ [] (tk4 (sf3 (sf3 (sf3 (sf5 h38.c.t6)))))
theorem ut10_11_Arm(d b c:Nat)(hf0:0≤ -(b:Int)+255):HQ 349 [pV d,iV b] [Cl d [.map (some c)] 273,Gp kI kI c ([]:List (Int×Int))] (iV 0) [Cl d [.map (some c)] 273,Gp kI kI c ([((b:Int),1)]:List (Int×Int))]:=by
 refine hiS func349 ntmps349 fun g w0 R h0=>g0<|cl2 call385 (ut10_6_find d b c om) h0 fun _ h11=> ?_
 have h12:=h11.a.t3
 refine go [rd 6 3 0 0 1 h11] ?_
 refine actG ?_
 refine ag_mapUpdate (t:=271) (m:=Ot 21) (x:=Ot 22) (y:=(Operand.const (iV 1))) (kv:=kI) (ve:=kI) kr kr underlying271 kyI (b:Int) 1 kr kr kr h12 ([((b:Int),1)]:List (Int×Int)) rfl ?_
 intro _ h14
 refine nxB<|g0 ?_
 exact enR _ [] h14.a.t3
theorem ut10_12_Register1(q s t p j u k a:Nat)(i:Int)(b l m o:Nat)(hf0:0≤ -(a:Int)+255)(hf1:0≤i-1)(hf2:0≤ -(b:Int)+255):HQ 347 [pV q,pV s,pV t] [Cl p [pV j,pV u,pV k,iV 256] 170,Cl q [iV a,uV i] 203,Cl t [iV b] 3,Cl s [pV p] 77,Cl j [iV 256,.map (some l),.map (some m)] 267,Gp kI kRf l ([]:List (Int×(Int×Int))),Gp kRf kI m ([]:List ((Int×Int)×Int)),Cl k [.map (some o)] 273,Gp kI kI o ([]:List (Int×Int))] (iV 0) [Cl p [pV j,pV u,pV k,iV 256] 170,Cl q [iV a,uV i] 203,Cl t [iV b] 3,Cl s [pV p] 77,Cl j [iV 256,.map (some l),.map (some m)] 267,Gp kI kRf l ([((b:Int),((a:Int),i))]:List (Int×(Int×Int))),Gp kRf kI m ([(((a:Int),i),(b:Int))]:List ((Int×Int)×Int)),Cl k [.map (some o)] 273,Gp kI kI o ([((b:Int),1)]:List (Int×Int))]:=by
 refine hiS func347 ntmps347 fun g w0 R h0=>go [rd 1 1 1 0 1 h0,.v 1 2 (oF ((a:Int)<0)),rd 1 5 1 0 1 h0,.v 1 6 (oF ((a:Int)≥256)),rd 1 10 1 1 1 h0,.v 1 11 (qeF i 0)]<|dw (fls [0,1,2,3,4,5] (Tr.an 6 (fls [7,8,9,10,11] Tr.nil))) h0 fun _ h11=> ?_
 have h12:=h11.f.e.t10
 refine go [rd 3 0 3 0 1 h11,rd 3 4 0 0 1 h11,rd 3 5 1 0 2 h11]<|cw2 call293 (ut10_5_By j a i l m) h12 fun _ h14=>⟨kd [],?_⟩
 have h15:=h14.h.h.d.t10
 refine go [rd 4 2 5 0 1 h14,rd 4 3 4 0 1 h14]<|cl3 call311 (ut10_8_free p b j u k o om) h15 fun _ h17=>g0<|dw (fls [0,1,2,3,4,5,6] (Tr.an 7 (Tr.fl 8 Tr.nil))) h17 fun _ h19=> ?_
 have h20:=h19.h.e.e.t10
 refine go [rd 6 0 7 0 1 h19,rd 6 4 0 0 1 h19,rd 6 5 6 0 1 h19,rd 6 6 5 0 2 h19]<|cw3 call348 (ut10_10_Add j b a i l m om om om) h20 fun _ h22=>⟨kd [],?_⟩
 refine g0<|dw (fls [0,1,2,3,4,5] (Tr.an 6 (Tr.fl 7 Tr.nil))) h22 fun _ h24=> ?_
 have h25:=h24.e.e.t10
 refine go [rd 9 0 8 0 1 h24,rd 9 4 3 2 1 h24,rd 9 5 7 0 1 h24]<|cw2 call349 (ut10_11_Arm k b o om) h25 fun _ h27=>⟨kd [],?_⟩
 refine g0 ?_
 exact enR _ [] h27.c.d.d.h.h.h.h.t10
theorem ut10_13_with(b a m o p d:Nat)(e:Int)(f q i j k l:Nat)(hf0:0≤ -(a:Int)+255)(hf1:0≤ -(d:Int)+255)(hf2:0≤e-1):HQ 309 [pV b,iV a,.func (Fn.func 347) #[] #[pV m,pV o,pV p]] [Cl m [iV d,uV e] 203,Cl p [iV a] 3,Cl o [pV b] 77,Cl b [pV f,pV q,pV i,iV 256] 170,Cl f [iV 256,.map (some j),.map (some k)] 267,Gp kI kRf j ([]:List (Int×(Int×Int))),Gp kRf kI k ([]:List ((Int×Int)×Int)),Cl i [.map (some l)] 273,Gp kI kI l ([]:List (Int×Int))] (iV 0) [Cl m [iV d,uV e] 203,Cl p [iV a] 3,Cl o [pV b] 77,Cl b [pV f,pV q,pV i,iV 256] 170,Cl f [iV 256,.map (some j),.map (some k)] 267,Gp kI kRf j ([((a:Int),((d:Int),e))]:List (Int×(Int×Int))),Gp kRf kI k ([(((d:Int),e),(a:Int))]:List ((Int×Int)×Int)),Cl i [.map (some l)] 273,Gp kI kI l ([((a:Int),1)]:List (Int×Int))]:=by
 refine hiS func309 ntmps309 fun g w0 R h0=> ?_
 have h10:=h0.c.t10
 refine g0<|cl1 call117 (ut10_3_valid b f q i) h10 fun _ h12=>go [.v 3 1 (oF ((a:Int)<0)),rd 3 7 0 3 1 h12,.v 3 8 (oF ((a:Int)≥256))]<|cP call347 (ut10_12_Register1 m o p b f q i d e a j k l om om om) h12 ?_
 rintro v K w13 (⟨rfl,rfl⟩) h14
 have h15:sat g _ (Cl b [pV f,pV q,pV i,iV 256] 170::_):=h14
 refine g0 ?_
 exact enR _ [] h15.c.c.c.t10
theorem rqreg(b q id s:Nat)(gn:Int)(hf0:0≤ -(id:Int)+255)(hf1:0≤ -(s:Int)+255)(hf2:0≤gn-1):HQ 272 [pV b,iV id,.agg #[iV s,uV gn]] [Rq0 b q 0] (iV 0) [Rq1 b q id s gn]:=by
 refine hiS func272 ntmps272 fun g w0 R h0=> ?_
 obtain⟨o10,wq11,cl12,m13,m14,m15,hp16,hp17,h18⟩:=Rq0_open h0
 have h19:sat g _ (Cl b [pV o10,pV wq11,pV cl12,iV 256] 170::_):=h18
 refine g0<|nP 77 [pV b] h19 (fun r20 _ h22=> ?_)
 refine nP 3 [iV id] h22 (fun r23 _ h25=> ?_)
 refine nP 203 [iV s,uV gn] h25 (fun r26 _ h28=> ?_)
 have h29:=h28.i.i.h.h.h.h.h.h.h.t11
 refine go [rd 1 0 2 0 1 h28,rd 1 1 1 0 1 h28]<|cP call309 (ut10_13_with b id r26 r20 r23 s gn o10 wq11 cl12 m13 m14 m15 om om om) h29 ?_
 rintro v K w30 (⟨rfl,rfl⟩) h31
 have h32:sat g _ (Cl r26 [iV s,uV gn] 203::_):=h31
 refine g0 ?_
 have h34:sat g _ (Rq1 b q id s gn::_):=Rq1_close b q id s gn o10 wq11 cl12 m13 m14 m15 hp16 hp17 om om om h32.h.h.i.i.i.i.i.t11
 exact enR _ [] h34.d.a.t2
theorem rqpoll0(b q:Nat)(f:Int):HQ 297 [pV b] [Rq0 b q f] (.tuple #[iV 0,.bool false]) [Rq0 b q f]:=by
 refine hiS func297 ntmps297 fun g w0 R h0=> ?_
 obtain⟨o10,wq11,cl12,m13,m14,m15,hp16,hp17,h18⟩:=Rq0_open h0
 have h19:sat g _ (Cl b [pV o10,pV wq11,pV cl12,iV 256] 170::_):=h18
 refine g0<|cl1 call117 (ut10_3_valid b o10 wq11 cl12) h19 fun _ h21=> ?_
 have h22:=h21.d.t8
 refine go [rd 3 4 0 1 1 h21]<|cl1 call371 (qupoll0 wq11 q f om om) h22 fun w23 h24=>g0 ?_
 have h26:sat g _ (Rq0 b q f::_):=Rq0_close b q f o10 wq11 cl12 m13 m14 m15 hp16 hp17 h24.d.d.d.d.t8
 exact enR _ [] h26
theorem ut10_21_find(c a b:Nat)(hf0:0≤ -(a:Int)+255):HQ 385 [pV c,iV a] [Cl c [.map (some b)] 273,Gp kI kI b ([((a:Int),1)]:List (Int×Int))] (.tuple #[iV 1,iV 0]) [Cl c [.map (some b)] 273,Gp kI kI b ([((a:Int),1)]:List (Int×Int))]:=by
 refine hiS func385 ntmps385 fun g w0 R h0=>go [rd 1 6 0 0 1 h0,.v 3 1 (oF ((a:Int)<0)),.v 3 4 (oF ((a:Int)≥256)),rd 5 3 0 0 1 h0] ?_
 refine actG ?_
 refine act_law (d:=31) (.tuple #[iV 1,.bool true]) kr rfl (law_lkH (t:=271) (z:=iV 0) (m:=Ot 29) (x:=Ot 30) (kv:=kI) (ve:=kI) kr underlying271 kyI kr (a:Int) kr kr (j:=1) h0 rfl (iV 1) 1 (gg_hit rfl) rfl) ?_
 refine nxA<|g0 ?_
 exact enR _ [] h0
theorem ut10_22_Get(d a c:Nat)(hf0:0≤ -(a:Int)+255):HQ 383 [pV d,iV a] [Cl d [.map (some c)] 273,Gp kI kI c ([((a:Int),1)]:List (Int×Int))] (.tuple #[.agg #[iV a,iV 1],iV 0]) [Cl d [.map (some c)] 273,Gp kI kI c ([((a:Int),1)]:List (Int×Int))]:=by
 refine hiS func383 ntmps383 fun g w0 R h0=>g0<|nP 498 [iV 0,iV 0] h0 (fun _ _ h12=> ?_)
 have h13:=h12.b.b.t4
 refine g0<|cl2 call385 (ut10_21_find d a c om) h13 fun _ h15=> ?_
 have h16:=h15.b.t4
 refine g0<|sA [iV a,iV 1] h16 fun _ h18=>g0 ?_
 exact enR (.tuple #[.agg #[iV a,iV 1],iV 0]) [rd 0 0 0 0 2 h18] (tk3 (sf2 (sf2 (sf3 h18.b.b.t4))))
theorem ut10_23_free(f a i j d e:Nat)(hf0:0≤ -(a:Int)+255):HQ 311 [pV f,iV a] [Cl f [pV i,pV j,pV d,iV 256] 170,Cl d [.map (some e)] 273,Gp kI kI e ([((a:Int),1)]:List (Int×Int))] (.bool false) [Cl f [pV i,pV j,pV d,iV 256] 170,Cl d [.map (some e)] 273,Gp kI kI e ([((a:Int),1)]:List (Int×Int))]:=by
 refine hiS func311 ntmps311 fun g w0 R h0=> ?_
 have h10:=h0.b.b.t4
 refine go [rd 1 4 0 2 1 h0]<|cl2 call383 (ut10_22_Get d a e om) h10 fun _ h12=>g0<|nP 498 [iV 0,iV 0] h12 (fun _ _ h15=> ?_)
 refine sA [iV a,iV 1] h15 fun _ h17=>g0 ?_
 exact enR _ [] (tk4 (sf3 (sf3 (sf3 (sf4 h17.b.b.c.t5)))))
theorem ut10_24_Clear(o i k l e:Nat)(f:Int)(hf0:0≤ -(i:Int)+255):HQ 294 [pV o,iV i] [Cl o [iV 256,.map (some k),.map (some l)] 267,Gp kI kRf k ([((i:Int),((e:Int),f))]:List (Int×(Int×Int))),Gp kRf kI l ([(((e:Int),f),(i:Int))]:List ((Int×Int)×Int))] (.tuple #[.agg #[iV e,uV f],iV 0]) [Cl o [iV 256,.map (some k),.map (some l)] 267,Gp kI kRf k ([]:List (Int×(Int×Int))),Gp kRf kI l ([]:List ((Int×Int)×Int))]:=by
 refine hiS func294 ntmps294 fun g w0 R h0=>g0<|nP 203 [iV 0,uV 0] h0 (fun _ _ h12=> ?_)
 have h13:=h12.a.t5
 refine g0<|cl1 call368 (ut10_9_check o i k l om) h13 fun _ h15=>go [rd 4 3 0 1 1 h15] ?_
 refine actG ?_
 refine act_law (d:=22) (.tuple #[.agg #[iV e,uV f],.bool true]) kr rfl (law_lkH (t:=264) (z:= .agg #[iV 0,uV 0]) (m:=Ot 20) (x:=Ot 21) (kv:=kI) (ve:=kRf) kr underlying264 kyI kr (i:Int) kr kr (j:=2) h15 rfl (.agg #[iV e,uV f]) ((e:Int),f) (gg_hit rfl) rfl) ?_
 refine nxA<|g0<|nP 203 [iV 0,uV 0] h15 (fun _ _ h18=> ?_)
 refine sA [iV e,uV f] h18 fun _ h20=> ?_
 have h21:=h20.c.t6
 refine go [rd 7 3 1 1 1 h20] ?_
 refine actG ?_
 refine ag_delete (t:=264) (t2:=3) (d:=none) (m:=Ot 31) (x:=Ot 32) (kv:=kI) (ve:=kRf) kr underlying264 kyI (i:Int) kr kr h21 kr ([]:List (Int×(Int×Int))) (gd_hit rfl) ?_
 intro _ h23
 refine⟨_,rfl,?_⟩
 refine nxB<|g0<|dw (fls [0,1,2,3,4] (Tr.an 5 Tr.nil)) h23 fun _ h25=> ?_
 have h26:=h25.d.t6
 refine go [rd 8 3 2 2 1 h25,rd 8 4 1 0 2 h25] ?_
 refine actG ?_
 refine ag_delete (t:=265) (t2:=203) (d:=none) (m:=Ot 36) (x:=Ot 37) (kv:=kRf) (ve:=kI) kr underlying265 kyRf ((e:Int),f) kr kr h26 kr ([]:List ((Int×Int)×Int)) (gd_hit rfl) ?_
 intro _ h28
 refine⟨_,rfl,?_⟩
 refine⟨kd [],nxN ?_⟩
 have h29:=h28.d.t6
 refine go [rd 9 0 2 0 2 h28]<|sA [iV e,uV f] h29 fun _ h31=>g0 ?_
 exact enR (.tuple #[.agg #[iV e,uV f],iV 0]) [rd 0 0 0 0 2 h31] (tk4 (sf3 (sf3 (sf3 (sf5 h31.a.b.d.t6)))))
theorem ut10_25_end(d b c:Nat)(hf0:0≤ -(b:Int)+255):HQ 384 [pV d,iV b,iV 3] [Cl d [.map (some c)] 273,Gp kI kI c ([((b:Int),1)]:List (Int×Int))] (.tuple #[.bool true,iV 0]) [Cl d [.map (some c)] 273,Gp kI kI c ([((b:Int),3)]:List (Int×Int))]:=by
 refine hiS func384 ntmps384 fun g w0 R h0=>g0<|cl2 call385 (ut10_21_find d b c om) h0 fun _ h11=> ?_
 have h12:=h11.a.t3
 refine go [rd 4 3 0 0 1 h11] ?_
 refine actG ?_
 refine ag_mapUpdate (t:=271) (m:=Ot 26) (x:=Ot 27) (y:=Ot 28) (kv:=kI) (ve:=kI) kr kr underlying271 kyI (b:Int) 3 kr kr kr h12 ([((b:Int),3)]:List (Int×Int)) (gs_hit rfl) ?_
 intro _ h14
 refine nxB<|g0 ?_
 exact enR _ [] h14.a.t3
theorem ut10_26_Cancel(c a b:Nat)(hf0:0≤ -(a:Int)+255):HQ 313 [pV c,iV a] [Cl c [.map (some b)] 273,Gp kI kI b ([((a:Int),1)]:List (Int×Int))] (.tuple #[.bool true,iV 0]) [Cl c [.map (some b)] 273,Gp kI kI b ([((a:Int),3)]:List (Int×Int))]:=by
 refine hiS func313 ntmps313 fun g w0 R h0=>g0<|cl2 call384 (ut10_25_end c a b om) h0 fun _ h11=>g0 ?_
 exact enR _ [] h11
theorem ut10_27_find(c a b:Nat)(hf0:0≤ -(a:Int)+255):HQ 385 [pV c,iV a] [Cl c [.map (some b)] 273,Gp kI kI b ([((a:Int),3)]:List (Int×Int))] (.tuple #[iV 3,iV 0]) [Cl c [.map (some b)] 273,Gp kI kI b ([((a:Int),3)]:List (Int×Int))]:=by
 refine hiS func385 ntmps385 fun g w0 R h0=>go [rd 1 6 0 0 1 h0,.v 3 1 (oF ((a:Int)<0)),.v 3 4 (oF ((a:Int)≥256)),rd 5 3 0 0 1 h0] ?_
 refine actG ?_
 refine act_law (d:=31) (.tuple #[iV 3,.bool true]) kr rfl (law_lkH (t:=271) (z:=iV 0) (m:=Ot 29) (x:=Ot 30) (kv:=kI) (ve:=kI) kr underlying271 kyI kr (a:Int) kr kr (j:=1) h0 rfl (iV 3) 3 (gg_hit rfl) rfl) ?_
 refine nxA<|g0 ?_
 exact enR _ [] h0
theorem ut10_28_Forget(e b c:Nat)(hf0:0≤ -(b:Int)+255):HQ 314 [pV e,iV b] [Cl e [.map (some c)] 273,Gp kI kI c ([((b:Int),3)]:List (Int×Int))] (iV 0) [Cl e [.map (some c)] 273,Gp kI kI c ([]:List (Int×Int))]:=by
 refine hiS func314 ntmps314 fun g w0 R h0=>g0<|cl2 call385 (ut10_27_find e b c om) h0 fun _ h11=> ?_
 have h12:=h11.a.t3
 refine go [rd 6 3 0 0 1 h11] ?_
 refine actG ?_
 refine ag_delete (t:=271) (t2:=3) (d:=none) (m:=Ot 23) (x:=Ot 24) (kv:=kI) (ve:=kI) kr underlying271 kyI (b:Int) kr kr h12 kr ([]:List (Int×Int)) (gd_hit rfl) ?_
 intro _ h14
 refine⟨_,rfl,?_⟩
 refine nxB<|g0 ?_
 exact enR _ [] h14.a.t3
theorem ut10_29_Cancel1(q s t l j k d a m o u:Nat)(y:Int)(p f:Nat)(hf0:0≤ -(a:Int)+255)(hf1:0≤(p:Int)-1)(hf2:0≤ -(p:Int)+64):HQ 310 [pV q,pV s,pV t] [Cl l [pV j,pV k,pV d,iV 256] 170,Cl t [.bool false] 4,Cl s [iV a] 3,Cl q [pV l] 77,Cl j [iV 256,.map (some m),.map (some o)] 267,Gp kI kRf m ([((a:Int),((u:Int),y))]:List (Int×(Int×Int))),Gp kRf kI o ([(((u:Int),y),(a:Int))]:List ((Int×Int)×Int)),Cl k ([iV p]++List.replicate 66 (iV 0)) 270,Cl d [.map (some f)] 273,Gp kI kI f ([((a:Int),1)]:List (Int×Int))] (iV 0) [Cl l [pV j,pV k,pV d,iV 256] 170,Cl t [.bool true] 4,Cl s [iV a] 3,Cl q [pV l] 77,Cl j [iV 256,.map (some m),.map (some o)] 267,Gp kI kRf m ([]:List (Int×(Int×Int))),Gp kRf kI o ([]:List ((Int×Int)×Int)),Cl k ([iV p]++List.replicate 66 (iV 0)) 270,Cl d [.map (some f)] 273,Gp kI kI f ([]:List (Int×Int))]:=by
 refine hiS func310 ntmps310 fun g w0 R h0=> ?_
 have h10:=h0.i.i.b.t11
 refine go [rd 1 0 3 0 1 h0,rd 1 1 2 0 1 h0]<|cl3 call311 (ut10_23_free l a j k d f om) h10 fun _ h12=> ?_
 have h13:=h12.c.t11
 refine g0<|sA [.bool true] h13 fun _ h15=>go [rd 2 0 0 0 1 h15]<|dw (fls [0,1,2,3,4,5] (Tr.an 6 Tr.nil)) h15 fun _ h17=> ?_
 have h18:=h17.h.h.h.t11
 refine go [rd 4 0 5 0 1 h17,rd 4 4 1 0 1 h17,rd 4 5 4 0 1 h17]<|cw3 call294 (ut10_24_Clear j a m o u y om) h18 fun _ h20=>⟨kd [],?_⟩
 refine g0<|dw (fls [0,1,2,3,4,5] (Tr.an 6 Tr.nil)) h20 fun _ h22=> ?_
 have h23:=h22.i.t11
 refine go [rd 5 0 8 0 1 h22,rd 5 4 4 1 1 h22,rd 5 5 7 0 1 h22]<|cw1 call312 (qurem0 k p 0 (a:Int) om om) h23 fun _ h25=>⟨kd [],?_⟩
 refine g0<|dw (fls [0,1,2,3,4,5] (Tr.an 6 Tr.nil)) h25 fun _ h27=> ?_
 have h28:=h27.x.x.t11
 refine go [rd 6 0 9 0 1 h27,rd 6 4 5 2 1 h27,rd 6 5 8 0 1 h27]<|cw2 call313 (ut10_26_Cancel d a f om) h28 fun _ h30=>⟨kd [],?_⟩
 refine g0<|dw (fls [0,1,2,3,4,5] (Tr.an 6 (Tr.fl 7 Tr.nil))) h30 fun _ h32=>go [rd 7 0 9 0 1 h32,rd 7 4 7 2 1 h32,rd 7 5 8 0 1 h32]<|cw2 call314 (ut10_28_Forget d a f om) h32 fun _ h34=>⟨kd [],?_⟩
 refine g0 ?_
 exact enR _ [] h34.b.e.e.e.i.i.h.i.t11
theorem ut10_30_with(b a m o p d e f i j q:Nat)(s:Int)(l k:Nat)(hf0:0≤ -(a:Int)+255)(hf1:0≤(l:Int)-1)(hf2:0≤ -(l:Int)+64):HQ 309 [pV b,iV a,.func (Fn.func 310) #[] #[pV m,pV o,pV p]] [Cl p [.bool false] 4,Cl o [iV a] 3,Cl m [pV b] 77,Cl b [pV d,pV e,pV f,iV 256] 170,Cl d [iV 256,.map (some i),.map (some j)] 267,Gp kI kRf i ([((a:Int),((q:Int),s))]:List (Int×(Int×Int))),Gp kRf kI j ([(((q:Int),s),(a:Int))]:List ((Int×Int)×Int)),Cl e ([iV l]++List.replicate 66 (iV 0)) 270,Cl f [.map (some k)] 273,Gp kI kI k ([((a:Int),1)]:List (Int×Int))] (iV 0) [Cl p [.bool true] 4,Cl o [iV a] 3,Cl m [pV b] 77,Cl b [pV d,pV e,pV f,iV 256] 170,Cl d [iV 256,.map (some i),.map (some j)] 267,Gp kI kRf i ([]:List (Int×(Int×Int))),Gp kRf kI j ([]:List ((Int×Int)×Int)),Cl e ([iV l]++List.replicate 66 (iV 0)) 270,Cl f [.map (some k)] 273,Gp kI kI k ([]:List (Int×Int))]:=by
 refine hiS func309 ntmps309 fun g w0 R h0=> ?_
 have h10:=h0.c.t11
 refine g0<|cl1 call117 (ut10_3_valid b d e f) h10 fun _ h12=>go [.v 3 1 (oF ((a:Int)<0)),rd 3 7 0 3 1 h12,.v 3 8 (oF ((a:Int)≥256))]<|cP call310 (ut10_29_Cancel1 m o p b d e f a i j q s l k om om om) h12 ?_
 rintro v K w13 (⟨rfl,rfl⟩) h14
 have h15:sat g _ (Cl b [pV d,pV e,pV f,iV 256] 170::_):=h14
 refine g0 ?_
 exact enR _ [] h15.c.c.c.t11
theorem rqcan1(b q id s:Nat)(gn:Int):HQ 224 [pV b,iV id] [Rq1 b q id s gn] (.tuple #[.bool true,iV 0]) [Rq0 b q 0]:=by
 refine hiS func224 ntmps224 fun g w0 R h0=> ?_
 obtain⟨o10,wq11,cl12,m13,m14,m15,hp16,hp17,hp18,hp19,hp20,h21⟩:=Rq1_open h0
 have h22:sat g _ (Cl b [pV o10,pV wq11,pV cl12,iV 256] 170::_):=h21
 refine g0<|nP 77 [pV b] h22 (fun r23 _ h25=> ?_)
 refine nP 3 [iV id] h25 (fun r26 _ h28=> ?_)
 refine g0<|nP 4 [.bool false] h28 (fun r29 _ h31=> ?_)
 refine sA [.bool false] h31 fun _ h33=>go [rd 2 0 2 0 1 h33,rd 2 1 1 0 1 h33]<|cP call309 (ut10_30_with b id r23 r26 r29 o10 wq11 cl12 m13 m14 s gn q m15 om om om) h33 ?_
 rintro v K w34 (⟨rfl,rfl⟩) h35
 have h36:sat g _ (Cl r29 [.bool true] 4::_):=h35
 refine go [rd 3 0 0 0 1 h36] ?_
 have h38:sat g _ (Rq0 b q 0::_):=Rq0_close b q 0 o10 wq11 cl12 m13 m14 m15 hp16 hp17 h36.i.i.i.i.i.i.i.t11
 exact enR _ [] h38.d.a.t2
theorem rqfound0(b q:Nat)(f:Int)(s:Nat)(gn:Int):HQ 215 [pV b,.agg #[iV s,uV gn]] [Rq0 b q f] (.tuple #[.bool false,iV 0]) [Rq0 b q f]:=by
 refine hiS func215 ntmps215 fun g w0 R h0=> ?_
 obtain⟨o10,wq11,cl12,m13,m14,m15,hp16,hp17,h18⟩:=Rq0_open h0
 have h19:sat g _ (Cl b [pV o10,pV wq11,pV cl12,iV 256] 170::_):=h18
 refine g0<|nP 203 [iV s,uV gn] h19 (fun r20 _ h22=> ?_)
 have h23:=h22.a.t9
 refine g0<|cl1 call117 (ut10_3_valid b o10 wq11 cl12) h23 fun _ h25=>g0<|dw (fls [0,1,2,3,4,5] (Tr.an 6 (fls [7,8,9,10,11] Tr.nil))) h25 fun _ h27=> ?_
 have h28:=h27.d.c.t9
 refine go [rd 3 4 0 0 1 h27,rd 3 5 1 0 2 h27]<|cw2 call293 (ut10_5_By o10 s gn m13 m14) h28 fun w29 h30=>⟨kd [],?_⟩
 refine g0 ?_
 have h32:sat g _ (Rq0 b q f::_):=Rq0_close b q f o10 wq11 cl12 m13 m14 m15 hp16 hp17 h30.x.x.x.d.x.e.f.t9
 exact enR _ [] h32.B.t2
theorem qtnew(mq:Int)(hf0:0≤mq-1)(hf1:0≤ -mq+256):HT prog 33 [iV mq] [] (fun v K=> ∃b:Nat,v= .tuple #[pV b,iV 0]∧K= [Cl b [iV mq,.pointer none] 191]):=by
 refine hiS func33 ntmps33 fun g w0 R h0=>go [.v 1 1 (oF (mq<1)),.v 1 4 (oF (mq>256))]<|nP 191 [iV mq,.pointer none] h0 (fun r10 _ h12=> ?_)
 refine g0 ?_
 exact en (.tuple #[pV r10,iV 0]) [] ⟨_,_,rfl,⟨r10,rfl,rfl⟩,h12⟩
theorem ut11_1_made(b:Nat)(a:Int)(hf0:0≤a-1):HQ 122 [pV b] [Cl b [iV a,.pointer none] 191] (.bool true) [Cl b [iV a,.pointer none] 191]:=by
 refine hiS func122 ntmps122 fun g w0 R h0=>go [rd 1 6 0 0 1 h0,.v 1 7 (oT (a>0))] ?_
 exact enR _ [] h0
theorem qtease(b:Nat)(mq us:Int)(hf0:0≤us)(hf1:0≤mq-1):HQ 219 [pV b,iV us] [Cl b [iV mq,.pointer none] 191] (.tuple #[]) [Cl b [iV mq,.pointer none] 191]:=by
 refine hiS func219 ntmps219 fun g w0 R h0=>g0<|cl1 call122 (ut11_1_made b mq om) h0 fun _ h11=>go [.v 0 4 (oT (us≥0)),rd 0 11 0 0 1 h11,.s 0 12] ?_
 by_cases c12:us<mq
 ·
  refine go [.v 0 12 (oT _ c12)]<|sP [(1,.pointer none)] [iV mq,.pointer none] h11 fun _ h14=>g0 ?_
  exact enR _ [] h14
 refine go [.v 0 12 (oF _ c12)] ?_
 exact enR _ [] h11
theorem ut11_2_Ask1(d b:Nat)(c:Int)(hf0:0≤c-1):HQ 335 [pV d] [Cl d [pV b] 81,Cl b [iV c,.pointer none] 191] (.bool false) [Cl d [pV b] 81,Cl b [iV c,.pointer none] 191]:=by
 refine hiS func335 ntmps335 fun g w0 R h0=> ?_
 have h10:=h0.a.t3
 refine go [rd 1 0 0 0 1 h0]<|cl1 call122 (ut11_1_made b c om) h10 fun _ h12=>g0 ?_
 exact enR _ [] h12.a.t3
theorem ut11_3_Ask2(c d:Nat)(a b:Int)(hf0:0≤b)(hf1:0≤a)(hf2:0≤ -a+1099511627776):HQ 336 [pV c,pV d] [Cl d [iV a] 3,Cl c [iV b] 3] (.bool false) [Cl d [iV a] 3,Cl c [iV b] 3]:=by
 refine hiS func336 ntmps336 fun g w0 R h0=>go [rd 1 0 1 0 1 h0,.v 1 1 (oF (b<0)),rd 1 3 0 0 1 h0,.v 1 4 (oF (a<0)),rd 1 7 0 0 1 h0,.v 1 8 (oF (a>1099511627776))] ?_
 exact enR _ [] h0
theorem ut11_4_Ask3(b c:Nat)(a:Int):HQ 337 [pV b,pV c] [Cl c [iV a] 3,Cl b [iV a] 3] (.bool false) [Cl c [iV a] 3,Cl b [iV a] 3]:=by
 refine hiS func337 ntmps337 fun g w0 R h0=>go [rd 1 0 1 0 1 h0,rd 1 1 0 0 1 h0,.v 1 2 (qnF a a)] ?_
 exact enR _ [] h0
theorem ut11_5_first(c j k a l:Nat)(i o:Int)(m:Nat)(p:Int)(hf0:0≤p-1)(hf1:0≤o)(hf2:0≤i)(hf3:0≤ -i+1099511627776):HQ 334 [.slice (some ⟨c,0,none⟩) 3 3] [Cl c [.func (Fn.func 335) #[] #[pV j],iV 1,.func (Fn.func 336) #[] #[pV k,pV a],iV 2,.func (Fn.func 337) #[] #[pV l,pV a],iV 2] 466,Cl a [iV i] 3,Cl l [iV i] 3,Cl k [iV o] 3,Cl j [pV m] 81,Cl m [iV p,.pointer none] 191] (iV 0) [Cl c [.func (Fn.func 335) #[] #[pV j],iV 1,.func (Fn.func 336) #[] #[pV k,pV a],iV 2,.func (Fn.func 337) #[] #[pV l,pV a],iV 2] 466,Cl a [iV i] 3,Cl l [iV i] 3,Cl k [iV o] 3,Cl j [pV m] 81,Cl m [iV p,.pointer none] 191]:=by
 refine hiS func334 ntmps334 fun g w0 R h0=>go [.v 1 1 (oJ .i64 (3:Int) 3)]<|unS 39<|go [.s 3 0]<|lwP (pV c) (liS (Ot 5) (Ot 7) c 0 0 3 3 underlying509 2 0 0)<|go [rd 3 1 0 0 2 h0]<|nP 466 [Value.nilFunc,iV 0] h0 (fun _ _ h12=> ?_)
 refine sA [.func (Fn.func 335) #[] #[pV j],iV 1] h12 fun _ h14=> ?_
 have h15:=h14.f.f.t8
 refine go [rd 4 1 0 0 1 h14]<|cl2 call335 (ut11_2_Ask1 j m p om) h15 fun _ h17=>g0<|unN<|go [.s 3 0]<|lwP (.pointer (some ⟨c,2,none⟩)) (liS (Ot 5) (Ot 7) c 0 1 3 3 underlying509 2 1 2)<|go [rd 3 1 3 2 2 h17]<|nP 466 [Value.nilFunc,iV 0] h17 (fun _ _ h20=> ?_)
 refine sA [.func (Fn.func 336) #[] #[pV k,pV a],iV 2] h20 fun _ h22=> ?_
 have h23:=h22.x.f.t9
 refine go [rd 4 1 0 0 1 h22]<|cl2 call336 (ut11_3_Ask2 k a i o om om om) h23 fun _ h25=>g0<|unN<|go [.s 3 0]<|lwP (.pointer (some ⟨c,4,none⟩)) (liS (Ot 5) (Ot 7) c 0 2 3 3 underlying509 2 2 4)<|go [rd 3 1 6 4 2 h25]<|nP 466 [Value.nilFunc,iV 0] h25 (fun _ _ h28=> ?_)
 refine sA [.func (Fn.func 337) #[] #[pV l,pV a],iV 2] h28 fun _ h30=> ?_
 have h31:=h30.h.b.t10
 refine go [rd 4 1 0 0 1 h30]<|cl2 call337 (ut11_4_Ask3 l a i) h31 fun _ h33=>g0<|unN<|g0<|up<|g0 ?_
 exact enR _ [] (tk7 (sf6 (sf6 (sf6 (sf6 (sf6 (sf6 (sf9 h33.f.f.e.d.d.h.t10))))))))
theorem ut11_6_Ask4(d e a:Nat)(b c:Int)(hf0:0≤ -c+b-1):HQ 338 [pV d,pV e] [Cl a [iV b,.pointer none] 191,Cl d [iV c] 3,Cl e [pV a] 81] (.bool true) [Cl a [iV b,.pointer none] 191,Cl d [iV c] 3,Cl e [pV a] 81]:=by
 refine hiS func338 ntmps338 fun g w0 R h0=>g0<|dw (fls [0,1,2,3,4,5,6] Tr.nil) h0 fun _ h11=>go [rd 1 0 1 0 1 h11,rd 1 1 2 0 1 h11,rd 1 4 0 0 1 h11,.v 1 5 (oT (c<b))] ?_
 exact enR _ [] h11
theorem ut11_7_first(c b a j k e:Nat)(f i:Int)(hf0:0≤ -i+f-1):HQ 334 [.slice (some ⟨c,0,none⟩) 3 3] [Cl c [.func (Fn.func 338) #[] #[pV b,pV a],iV 0,.func (Fn.func 339) #[] #[pV a,pV j,pV k],iV 13,.func (Fn.func 341) #[] #[],iV 12] 466,Cl e [iV f,.pointer none] 191,Cl b [iV i] 3,Cl a [pV e] 81] (iV 0) [Cl c [.func (Fn.func 338) #[] #[pV b,pV a],iV 0,.func (Fn.func 339) #[] #[pV a,pV j,pV k],iV 13,.func (Fn.func 341) #[] #[],iV 12] 466,Cl e [iV f,.pointer none] 191,Cl b [iV i] 3,Cl a [pV e] 81]:=by
 refine hiS func334 ntmps334 fun g w0 R h0=>go [.v 1 1 (oJ .i64 (3:Int) 3)]<|unS 39<|go [.s 3 0]<|lwP (pV c) (liS (Ot 5) (Ot 7) c 0 0 3 3 underlying509 2 0 0)<|go [rd 3 1 0 0 2 h0]<|nP 466 [Value.nilFunc,iV 0] h0 (fun _ _ h12=> ?_)
 refine sA [.func (Fn.func 338) #[] #[pV b,pV a],iV 0] h12 fun _ h14=> ?_
 have h15:=h14.d.d.d.t6
 refine go [rd 4 1 0 0 1 h14]<|cl3 call338 (ut11_6_Ask4 b a e f i om) h15 fun _ h17=>go [rd 5 1 3 1 1 h17]<|up<|g0 ?_
 exact enR _ [] (tk5 (sf4 (sf4 (sf4 (sf4 (sf5 h17.d.t6))))))
theorem qtask(b:Nat)(mq us ec:Int)(hf0:0≤us)(hf1:0≤mq-us-1)(hf2:0≤ec)(hf3:0≤ -ec+1099511627776):HQ 262 [pV b,iV us,iV ec,iV ec] [Cl b [iV mq,.pointer none] 191] (iV 0) [Cl b [iV mq,.pointer none] 191]:=by
 refine hiS func262 ntmps262 fun g w0 R h0=>g0<|nP 81 [pV b] h0 (fun r10 _ h12=> ?_)
 refine nP 3 [iV us] h12 (fun r13 _ h15=> ?_)
 refine nP 3 [iV ec] h15 (fun r16 _ h18=> ?_)
 refine nP 3 [iV ec] h18 (fun r19 _ h21=> ?_)
 refine g0<|nG (fun q_=> .slice (some ⟨q_,0,none⟩) 3 3) 466 [.func (Fn.func 335) #[] #[pV r10],iV 1,.func (Fn.func 336) #[] #[pV r13,pV r19],iV 2,.func (Fn.func 337) #[] #[pV r16,pV r19],iV 2] h21 (fun r22 _ h24=>⟨kd [],?_⟩)
 refine cl6 call334 (ut11_5_first r22 r10 r13 r19 r16 ec us b mq om om om om) h24 fun _ h26=> ?_
 have h27:=h26.e.t7
 refine go [rd 4 0 4 0 1 h26,rd 4 1 3 0 1 h26]<|cl1 call219 (qtease b mq us om om) h27 fun _ h29=>g0<|nG (fun q_=> .slice (some ⟨q_,0,none⟩) 3 3) 466 [.func (Fn.func 338) #[] #[pV r13,pV r10],iV 0,.func (Fn.func 339) #[] #[pV r10,pV r16,pV r19],iV 13,.func (Fn.func 341) #[] #[],iV 12] h29 (fun r30 _ h32=>⟨kd [],?_⟩)
 refine cl4 call334 (ut11_7_first r30 r13 r10 r16 r19 b mq us om) h32.f.f.c.c.t8 fun _ h35=>g0 ?_
 exact enR _ [] (tk2 (sf1 (sf7 h35.a.t8)))
theorem ut11_8_stats(a c d e f:Nat):HQ 56 [.agg #[iV a,iV c,iV d,iV e,iV f]] [] (.agg #[iV a,iV c,iV d,iV e,iV f]) []:=by
 refine hiS func56 ntmps56 fun g w0 R h0=>g0<|nP 133 [iV a,iV c,iV d,iV e,iV f] h0 (fun r10 _ h12=> ?_)
 refine nP 59 [iV 0,iV 0,iV 0,iV 0,iV 0] h12 (fun _ _ h15=> ?_)
 refine go [.s 1 0]<|lwP (pV r10) (law_indexArr (x:=Ot 1) (i:=(Operand.const (iV 0))) (b:=r10) (off:=0) (z:=0) kr underlying133 1 kr 0 kr kr om om 0 om _)<|go [rd 1 1 1 0 1 h15,.s 1 2]<|lwP (.pointer (some ⟨r10,1,none⟩)) (law_indexArr (x:=Ot 1) (i:=(Operand.const (iV 1))) (b:=r10) (off:=0) (z:=1) kr underlying133 1 kr 1 kr kr om om 1 om _)<|go [rd 1 3 1 1 1 h15,.s 1 4]<|lwP (.pointer (some ⟨r10,2,none⟩)) (law_indexArr (x:=Ot 1) (i:=(Operand.const (iV 2))) (b:=r10) (off:=0) (z:=2) kr underlying133 1 kr 2 kr kr om om 2 om _)<|go [rd 1 5 1 2 1 h15,.s 1 6]<|lwP (.pointer (some ⟨r10,3,none⟩)) (law_indexArr (x:=Ot 1) (i:=(Operand.const (iV 3))) (b:=r10) (off:=0) (z:=3) kr underlying133 1 kr 3 kr kr om om 3 om _)<|go [rd 1 7 1 3 1 h15,.s 1 8]<|lwP (.pointer (some ⟨r10,4,none⟩)) (law_indexArr (x:=Ot 1) (i:=(Operand.const (iV 4))) (b:=r10) (off:=0) (z:=4) kr underlying133 1 kr 4 kr kr om om 4 om _)<|go [rd 1 9 1 4 1 h15]<|sA [iV a,iV c,iV d,iV e,iV f] h15 fun _ h17=>g0 ?_
 exact enR (.agg #[iV a,iV c,iV d,iV e,iV f]) [rd 0 0 0 0 5 h17] h17.b.t1
theorem stof(b n:Nat)(S:Ts):HQ 25 [pV b,iV 0] [TW b n S] (.tuple #[.agg #[iV (S.R.length:Int),iV (((nums S.R 1).length:Nat):Int),iV (((nums S.R 2).length:Nat):Int),iV (((nums S.R 3).length:Nat):Int),iV (((nums S.R 4).length:Nat):Int)],iV 0]) [TW b n S]:=by
 refine hiS func25 ntmps25 fun g w0 R h0=> ?_
 have hW_:=(wi_out h0).1;have hrl_:=hW_.rl;have hsm_:=nums_sum hW_
 refine g0<|nP 59 [iV 0,iV 0,iV 0,iV 0,iV 0] h0 (fun _ _ h12=> ?_)
 have h14:=h12.a.t3
 refine g0<|cP call47 (tcopy_w b n S) h14 ?_
 rintro v K _ (⟨b13,rfl,rfl⟩) h16
 have h17:=ap2 h16
 refine g0<|cl1 call54 (tlen_w b n S) h17 fun _ h19=>go [.v 5 3 (oI ((S.R.length:Int)+0) (S.R.length:Int))]<|nP 133 [iV 0,iV 0,iV 0,iV 0,iV 0] h19 (fun r20 _ h22=> ?_)
 refine sA [iV (S.R.length:Int),iV 0,iV 0,iV 0,iV 0] h22 fun _ h24=>g0<|unS 39<|g0<|dw (fls [0,1,2,3,4] (Tr.an 5 (fls [6,7,8] (Tr.an 9 Tr.nil)))) h24 fun _ h26=>go [.s 9 1]<|lw (.pointer (some ⟨r20,1,none⟩)) (fun _=>law_indexArr (x:=Ot 6) (i:=Ot 31) (b:=r20) (off:=0) (z:=1) kr underlying133 1 kr 1 kr kr om om 1 om _) ?_
 have h29:=h26.a.t5
 refine go [rd 9 2 0 1 1 h26]<|cG call55 (tnums_w b n S 1) h29 ?_
 rintro v K _ (⟨p27,c28,rfl,rfl⟩) h31
 have h32:=ap2 h31
 refine⟨kd [rd 0 2 2 1 1 h32],?_⟩
 refine go [.v 9 7 (oI (0+(((nums S.R 1).length:Nat):Int)) (((nums S.R 1).length:Nat):Int)),.s 9 8]<|lw (.pointer (some ⟨r20,1,none⟩)) (fun _=>law_indexArr (x:=Ot 6) (i:=Ot 31) (b:=r20) (off:=0) (z:=1) kr underlying133 1 kr 1 kr kr om om 1 om _)<|sG [(1,iV (((nums S.R 1).length:Nat):Int))] [iV (S.R.length:Int),iV (((nums S.R 1).length:Nat):Int),iV 0,iV 0,iV 0] h32.b.t6 fun _ h35=>⟨kd [],?_⟩
 refine g0<|unN<|g0<|dw (fls [0,1,2,3,4] (Tr.an 5 (fls [6,7,8] (Tr.an 9 Tr.nil)))) h35 fun _ h37=>go [.s 9 1]<|lw (.pointer (some ⟨r20,2,none⟩)) (fun _=>law_indexArr (x:=Ot 6) (i:=Ot 31) (b:=r20) (off:=0) (z:=2) kr underlying133 1 kr 2 kr kr om om 2 om _) ?_
 have h40:=h37.a.t6
 refine go [rd 9 2 0 2 1 h37]<|cG call55 (tnums_w b n S 2) h40 ?_
 rintro v K _ (⟨p38,c39,rfl,rfl⟩) h42
 have h43:=ap2 h42
 refine⟨kd [rd 0 2 2 2 1 h43],?_⟩
 refine go [.v 9 7 (oI (0+(((nums S.R 2).length:Nat):Int)) (((nums S.R 2).length:Nat):Int)),.s 9 8]<|lw (.pointer (some ⟨r20,2,none⟩)) (fun _=>law_indexArr (x:=Ot 6) (i:=Ot 31) (b:=r20) (off:=0) (z:=2) kr underlying133 1 kr 2 kr kr om om 2 om _)<|sG [(2,iV (((nums S.R 2).length:Nat):Int))] [iV (S.R.length:Int),iV (((nums S.R 1).length:Nat):Int),iV (((nums S.R 2).length:Nat):Int),iV 0,iV 0] h43.b.t7 fun _ h46=>⟨kd [],?_⟩
 refine g0<|unN<|g0<|dw (fls [0,1,2,3,4] (Tr.an 5 (fls [6,7,8] (Tr.an 9 Tr.nil)))) h46 fun _ h48=>go [.s 9 1]<|lw (.pointer (some ⟨r20,3,none⟩)) (fun _=>law_indexArr (x:=Ot 6) (i:=Ot 31) (b:=r20) (off:=0) (z:=3) kr underlying133 1 kr 3 kr kr om om 3 om _) ?_
 have h51:=h48.a.t7
 refine go [rd 9 2 0 3 1 h48]<|cG call55 (tnums_w b n S 3) h51 ?_
 rintro v K _ (⟨p49,c50,rfl,rfl⟩) h53
 have h54:=ap2 h53
 refine⟨kd [rd 0 2 2 3 1 h54],?_⟩
 refine go [.v 9 7 (oI (0+(((nums S.R 3).length:Nat):Int)) (((nums S.R 3).length:Nat):Int)),.s 9 8]<|lw (.pointer (some ⟨r20,3,none⟩)) (fun _=>law_indexArr (x:=Ot 6) (i:=Ot 31) (b:=r20) (off:=0) (z:=3) kr underlying133 1 kr 3 kr kr om om 3 om _)<|sG [(3,iV (((nums S.R 3).length:Nat):Int))] [iV (S.R.length:Int),iV (((nums S.R 1).length:Nat):Int),iV (((nums S.R 2).length:Nat):Int),iV (((nums S.R 3).length:Nat):Int),iV 0] h54.b.t8 fun _ h57=>⟨kd [],?_⟩
 refine g0<|unN<|g0<|dw (fls [0,1,2,3,4] (Tr.an 5 (fls [6,7,8] (Tr.an 9 Tr.nil)))) h57 fun _ h59=>go [.s 9 1]<|lw (.pointer (some ⟨r20,4,none⟩)) (fun _=>law_indexArr (x:=Ot 6) (i:=Ot 31) (b:=r20) (off:=0) (z:=4) kr underlying133 1 kr 4 kr kr om om 4 om _) ?_
 have h62:=h59.a.t8
 refine go [rd 9 2 0 4 1 h59]<|cG call55 (tnums_w b n S 4) h62 ?_
 rintro v K _ (⟨p60,c61,rfl,rfl⟩) h64
 have h65:=ap2 h64
 refine⟨kd [rd 0 2 2 4 1 h65],?_⟩
 refine go [.v 9 7 (oI (0+(((nums S.R 4).length:Nat):Int)) (((nums S.R 4).length:Nat):Int)),.s 9 8]<|lw (.pointer (some ⟨r20,4,none⟩)) (fun _=>law_indexArr (x:=Ot 6) (i:=Ot 31) (b:=r20) (off:=0) (z:=4) kr underlying133 1 kr 4 kr kr om om 4 om _)<|sG [(4,iV (((nums S.R 4).length:Nat):Int))] [iV (S.R.length:Int),iV (((nums S.R 1).length:Nat):Int),iV (((nums S.R 2).length:Nat):Int),iV (((nums S.R 3).length:Nat):Int),iV (((nums S.R 4).length:Nat):Int)] h65.b.t9 fun _ h68=>⟨kd [],?_⟩
 refine g0<|unN<|g0<|up<|go [rd 10 0 0 0 5 h68]<|cl0 call56 (ut11_8_stats S.R.length ((nums S.R 1).length) ((nums S.R 2).length) ((nums S.R 3).length) ((nums S.R 4).length)) h68 fun _ h70=>sA [iV (S.R.length:Int),iV (((nums S.R 1).length:Nat):Int),iV (((nums S.R 2).length:Nat):Int),iV (((nums S.R 3).length:Nat):Int),iV (((nums S.R 4).length:Nat):Int)] h70.x.t9 fun _ h73=>g0 ?_
 exact enR _ [rd 0 0 0 0 5 h73] (tk2 (sf1 (sf8 h73.b.t9)))
theorem ut11_9_counts(a c d e f:Int):HQ 424 [.agg #[iV a,iV c,iV d,iV e,iV f]] [] (.agg #[iV a,iV c,iV d,iV e,iV f]) []:=by
 refine hiS func424 ntmps424 fun g w0 R h0=>g0<|nP 59 [iV a,iV c,iV d,iV e,iV f] h0 (fun _ _ h12=> ?_)
 refine nP 133 [iV 0,iV 0,iV 0,iV 0,iV 0] h12 (fun _ _ h15=> ?_)
 refine go [rd 1 1 1 0 1 h15,rd 1 3 1 1 1 h15,rd 1 5 1 2 1 h15,rd 1 7 1 3 1 h15,rd 1 9 1 4 1 h15]<|sA [iV a,iV c,iV d,iV e,iV f] h15 fun _ h17=>g0 ?_
 exact enR _ [rd 0 0 0 0 5 h17] h17.b.t1
theorem ut11_10_Check(f b c d e:Int)(hf0:0≤ -f+10000)(hf1:0≤b)(hf2:0≤c)(hf3:0≤d)(hf4:0≤e)(hf5:0≤b+c+d+e-f)(hf6:0≤ -b-c-d-e+f):HQ 380 [.agg #[iV f,iV b,iV c,iV d,iV e]] [] (iV 0) []:=by
 refine hiS func380 ntmps380 fun g w0 R h0=>g0<|nP 59 [iV f,iV b,iV c,iV d,iV e] h0 (fun _ _ h12=> ?_)
 refine go [rd 2 0 0 0 5 h12]<|cl0 call424 (ut11_9_counts f b c d e) h12 fun _ h14=>g0<|unS 39<|go [.v 5 1 (oF (f<0)),.v 5 4 (oF (f>10000))]<|unN<|go [.v 5 1 (oF (b<0)),.v 5 4 (oF (b>10000)),.v 8 2 (oI (0+b) b)]<|unN<|go [.v 5 1 (oF (c<0)),.v 5 4 (oF (c>10000)),.v 8 2 (oIr (b+c))]<|unN<|go [.v 5 1 (oF (d<0)),.v 5 4 (oF (d>10000)),.v 8 2 (oIr ((b+c)+d))]<|unN<|go [.v 5 1 (oF (e<0)),.v 5 4 (oF (e>10000)),.v 8 2 (oIr ((b+c+d)+e))] ?_
 refine unN<|g0<|up<|go [rd 10 2 0 0 1 h14,.v 10 3 (qnF (b+c+d+e) f)] ?_
 exact enR _ [] h14.a.t1
theorem stused(b d e c f:Int)(hf0:0≤d)(hf1:0≤e)(hf2:0≤c)(hf3:0≤f)(hf4:0≤ -b+2000)(hf5:0≤b-d-e-c-f)(hf6:0≤d+e+c+f-b):HQ 305 [.agg #[iV b,iV d,iV e,iV c,iV f]] [] (.tuple #[iV (b-c),iV 0]) []:=by
 refine hiS func305 ntmps305 fun g w0 R h0=>g0<|nP 59 [iV b,iV d,iV e,iV c,iV f] h0 (fun _ _ h12=> ?_)
 refine go [rd 1 0 0 0 5 h12]<|cl0 call380 (ut11_10_Check b d e c f om om om om om om om) h12 fun _ h14=>go [rd 4 1 0 0 1 h14,rd 4 3 0 3 1 h14,.v 4 4 (oIr (b-c))] ?_
 exact enR _ [] h14.a.t1
theorem fndX_stale{S:Ts}{d:Ky}{e:Int}(h:fndE S d=e)(he:e≠0):fndX S d=noE:=by
 unfold fndX
 rw[if_neg om]
def eRz(x:Int×Int):List Value:= [iV x.1,iV x.2]
theorem eRz_ok:Enc 2 eRz:=⟨fun _=>rfl,fun x v hv=>by simp[eRz] at hv;rcases hv with rfl |rfl<;>rfl⟩
def Rpo_p(b:Nat)(tz:Int)(E:KlT)(mm:Nat):List Assn:= [Cl b [iV tz,Value.map (some mm)] 125,Gp kv vKnT mm E]
def Rpo(b:Nat)(tz:Int)(E:KlT):Assn:=fun h=> ∃mm:Nat,(0≤tz∧tz≤100000)∧star (Rpo_p b tz E mm) h
theorem Rpo_open{g w:World}{L_:List Assn}{b:Nat}{tz:Int}{E:KlT}(h:sat g w (Rpo b tz E::L_)): ∃mm:Nat,(0≤tz∧tz≤100000)∧sat g w (Rpo_p b tz E mm++L_):=by
 obtain⟨mm,hp,h2⟩:=sat_open (X:=Nat) (p:=fun q_=>(0≤tz∧tz≤100000)) (B:=fun q_=>star (Rpo_p b tz E q_)) h (fun _ hk=>by obtain⟨mm,hp0,hk⟩:=hk;exact⟨mm,hp0,hk⟩)
 exact⟨mm,hp,sat_unstar h2⟩
theorem Rpo_close{g w:World}{L_:List Assn}(b:Nat)(tz:Int)(E:KlT)(mm:Nat)(hp0:0≤tz∧tz≤100000)(h:sat g w (Rpo_p b tz E mm++L_)):sat g w (Rpo b tz E::L_):=sat_imp (sat_star h) fun _ hk=>⟨mm,hp0,hk⟩
theorem rpnew:HT prog 27 [] [] (fun v K=> ∃b:Nat,v=pV b∧K= [Rpo b 0 []]):=by
 refine hiS func27 ntmps27 fun g w0 R h0=>g0 ?_
 refine actG ?_
 refine ag_makeMap (t:=123) (d:=1) kv vKnT kr kr rfl h0 ?_
 intro r10 _ h12
 refine nxA<|g0<|nP 125 [iV 0,.map (some r10)] h12 (fun r13 w14 h15=> ?_)
 refine g0 ?_
 have h16:sat g _ (Rpo r13 0 []::_):=Rpo_close r13 0 [] r10 om h15
 exact en (pV r13) [] ⟨_,_,rfl,⟨r13,rfl,rfl⟩,h16⟩
theorem ut13_1_valid(a:Nat)(b:Int)(c:Nat):HQ 50 [pV a] [Cl a [iV b,.map (some c)] 125] (.bool true) [Cl a [iV b,.map (some c)] 125]:=by
 refine hiS func50 ntmps50 fun g w0 R h0=>go [rd 1 6 0 1 1 h0] ?_
 exact enR _ [] h0
theorem rpopen(b:Nat)(tz:Int)(E:KlT)(oz og:Int)(L:List UInt8)(E2:KlT)(hG:gget E (1,oz,og)=none)(hS:gset E (1,oz,og) (L, -1,0,0,2)=E2)(hf0:0≤oz)(hf1:0≤ -oz+63)(hf2:0≤og-1)(hf3:0≤ -og+4294967295)(hf4:0≤(tagE L))(hf5:0≤ -(tagE L))(hf6:0≤ -(E.length:Int)+1999):HQ 205 [pV b,.agg #[iV 1,iV oz,uV og],.string (St L)] [Rpo b tz E] (iV 0) [Rpo b tz E2]:=by
 refine hiS func205 ntmps205 fun g w0 R h0=> ?_
 obtain⟨mm10,hp11,h12⟩:=Rpo_open h0
 have h13:sat g _ (Cl b [iV tz,.map (some mm10)] 125::_):=h12
 refine g0<|nP 48 [iV 1,iV oz,uV og] h13 (fun r14 _ h16=> ?_)
 have h17:=h16.a.t4
 refine g0<|cl1 call50 (ut13_1_valid b tz mm10) h17 fun _ h19=>go [rd 3 0 1 0 3 h19]<|cl0 call273 (couter_ok 1 oz og om om om) h19 fun _ h21=>g0<|cl0 call131 (tagc0 L om om) h21 fun _ h23=>g0<|dw (fls [0,1,2,3,4] (Tr.an2 5 (fls [6,7,8] (Tr.an 9 (Tr.an 10 (Tr.fl 11 Tr.nil)))) 9 (Tr.an 5 (fls [6,7,8] (Tr.an 10 (Tr.fl 11 Tr.nil)))))) h23 fun _ h25=>go [rd 7 3 0 1 1 h25,rd 7 4 1 0 3 h25] ?_
 refine br2 ?_ ?_
 ·
  refine actG ?_
  refine act_law (d:=27) (.tuple #[.agg #[.string (St []),iV 0,iV 0,iV 0,iV 0],.bool false]) kr rfl (law_lkN (t:=123) (z:= .agg #[.string (St []),iV 0,iV 0,iV 0,iV 0]) (m:=Ot 25) (x:=Ot 26) (kv:=kv) (ve:=vKnT) kr underlying123 kyO kr (1,oz,og) kr kr (j:=2) h25 rfl hG) ?_
  refine⟨kd [],nxG ?_⟩
  refine g0<|nG (fun q_=>pV q_) 127 [.string (St []),iV 0,iV 0,iV 0,iV 0] h25 (fun r26 _ h28=>⟨kd [],?_⟩)
  refine sB [.string (St []),iV 0,iV 0,iV 0,iV 0] h28 fun _ h30=>⟨kd [],?_⟩
  refine go [rd 10 3 1 1 1 h30,.s 10 4]<|lwP (iV (E.length:Int)) (law_lenG (kv:=kv) (ve:=vKnT) (t:=123) (x:=Ot 34) kr underlying123 kr (j:=3) h30 rfl)<|go [.v 10 5 (oF ((E.length:Int)≥2000))]<|dw (fls [0,1,2,3,4,5,6] (Tr.an 7 Tr.nil)) h30 fun _ h32=> ?_
  have h33:=h32.c.t5
  refine go [rd 12 3 1 1 1 h32,rd 12 4 2 0 3 h32] ?_
  refine actG ?_
  refine ag_mapUpdate (t:=123) (m:=Ot 40) (x:=Ot 41) (y:=Ot 43) (kv:=kv) (ve:=vKnT) kr kr underlying123 kyO (1,oz,og) (L, -1,0,0,2) kr kr kr h33 (gset E (1,oz,og) (L, -1,0,0,2)) rfl ?_
  intro w34 h35
  refine⟨kd [],nxN ?_⟩
  refine g0 ?_
  have h36:sat g w34 [Gp kv vKnT mm10 E2,Cl r26 [.string (St []),iV 0,iV 0,iV 0,iV 0] 127,Cl b [iV tz,.map (some mm10)] 125,Cl r14 [iV 1,iV oz,uV og] 48,R]:=by rw[←hS];exact h35
  have h38:sat g _ (Rpo b tz E2::_):=Rpo_close b tz E2 mm10 om h36.b.t5
  exact enR _ [] h38.c.a.t2
 refine nG (fun q_=>pV q_) 127 [.string (St []),iV 0,iV 0,iV 0,iV 0] h25 (fun r40 _ h42=>⟨kd [rd 0 4 2 0 3 h42,rd 0 3 1 1 1 h42],?_⟩)
 refine actG ?_
 refine act_law (d:=27) (.tuple #[.agg #[.string (St []),iV 0,iV 0,iV 0,iV 0],.bool false]) kr rfl (law_lkN (t:=123) (z:= .agg #[.string (St []),iV 0,iV 0,iV 0,iV 0]) (m:=Ot 25) (x:=Ot 26) (kv:=kv) (ve:=vKnT) kr underlying123 kyO kr (1,oz,og) kr kr (j:=3) h42 rfl hG) ?_
 refine⟨kd [],nxG ?_⟩
 refine g0<|sB [.string (St []),iV 0,iV 0,iV 0,iV 0] h42 fun _ h44=>⟨kd [],?_⟩
 refine go [rd 10 3 1 1 1 h44,.s 10 4]<|lwP (iV (E.length:Int)) (law_lenG (kv:=kv) (ve:=vKnT) (t:=123) (x:=Ot 34) kr underlying123 kr (j:=3) h44 rfl)<|go [.v 10 5 (oF ((E.length:Int)≥2000))]<|dw (fls [0,1,2,3,4,5,6] (Tr.an 7 Tr.nil)) h44 fun _ h46=> ?_
 have h47:=h46.c.t5
 refine go [rd 12 3 1 1 1 h46,rd 12 4 2 0 3 h46] ?_
 refine actG ?_
 refine ag_mapUpdate (t:=123) (m:=Ot 40) (x:=Ot 41) (y:=Ot 43) (kv:=kv) (ve:=vKnT) kr kr underlying123 kyO (1,oz,og) (L, -1,0,0,2) kr kr kr h47 (gset E (1,oz,og) (L, -1,0,0,2)) rfl ?_
 intro w48 h49
 refine⟨kd [],nxN ?_⟩
 refine g0 ?_
 have h50:sat g w48 [Gp kv vKnT mm10 E2,Cl r40 [.string (St []),iV 0,iV 0,iV 0,iV 0] 127,Cl b [iV tz,.map (some mm10)] 125,Cl r14 [iV 1,iV oz,uV og] 48,R]:=by rw[←hS];exact h49
 have h52:sat g _ (Rpo b tz E2::_):=Rpo_close b tz E2 mm10 om h50.b.t5
 exact enR _ [] h52.c.a.t2
theorem ut13_2_Check(c d b:Int)(hf0:0≤c)(hf1:0≤ -c+63)(hf2:0≤d-1)(hf3:0≤ -d+4294967295)(hf4:0≤b-1)(hf5:0≤ -b+3):HQ 304 [.agg #[iV 0,iV 1,iV c,uV d,iV b,iV 1]] [] (iV 0) []:=by
 refine hiS func304 ntmps304 fun g w0 R h0=>g0<|nP 50 [iV 0,iV 1,iV c,uV d,iV b,iV 1] h0 (fun _ _ h12=> ?_)
 refine go [rd 1 1 0 0 1 h12,rd 1 5 0 0 1 h12,rd 1 10 0 1 3 h12]<|cl0 call273 (couter_ok 1 c d om om om) h12 fun _ h14=>go [rd 1 16 0 4 1 h14,.v 1 17 (oF (b<1)),rd 1 21 0 4 1 h14,.v 1 22 (oF (b>3)),rd 1 26 0 5 1 h14,rd 1 31 0 5 1 h14] ?_
 exact enR _ [] h14.a.t1
theorem rptry(b:Nat)(tz:Int)(E:KlT)(oz og wy:Int)(L:List UInt8)(E2:KlT)(hG:gget E (1,oz,og)=some (L, -1,0,0,2))(hS:gset E (1,oz,og) (L,tz,0,wy,3)=E2)(hf0:0≤oz)(hf1:0≤ -oz+63)(hf2:0≤og-1)(hf3:0≤ -og+4294967295)(hf4:0≤wy-1)(hf5:0≤ -wy+3)(hf6:0≤tz)(hf7:0≤ -tz+9999):HQ 218 [pV b,.agg #[iV 0,iV 1,iV oz,uV og,iV wy,iV 1]] [Rpo b tz E] (iV 0) [Rpo b (tz+1) E2]:=by
 refine hiS func218 ntmps218 fun g w0 R h0=> ?_
 obtain⟨mm10,hp11,h12⟩:=Rpo_open h0
 have h13:sat g _ (Cl b [iV tz,.map (some mm10)] 125::_):=h12
 refine g0<|nP 50 [iV 0,iV 1,iV oz,uV og,iV wy,iV 1] h13 (fun r14 _ h16=> ?_)
 have h17:=h16.a.t4
 refine g0<|cl1 call50 (ut13_1_valid b tz mm10) h17 fun _ h19=>go [rd 3 0 1 0 6 h19]<|cl0 call304 (ut13_2_Check oz og wy om om om om om om) h19 fun _ h21=>g0<|dw (fls [0,1,2,3,4,5] (Tr.an2 6 (fls [7,8,9] (Tr.an 10 (Tr.an 11 (Tr.fl 12 Tr.nil)))) 10 (Tr.an 6 (fls [7,8,9] (Tr.an 11 (Tr.fl 12 Tr.nil)))))) h21 fun _ h23=>go [rd 5 3 0 1 1 h23,rd 5 5 1 1 3 h23] ?_
 refine br2 ?_ ?_
 ·
  refine actG ?_
  refine act_law (d:=22) (.tuple #[.agg #[.string (St L),iV (-1),iV 0,iV 0,iV 2],.bool true]) kr rfl (law_lkH (t:=123) (z:= .agg #[.string (St []),iV 0,iV 0,iV 0,iV 0]) (m:=Ot 19) (x:=Ot 21) (kv:=kv) (ve:=vKnT) kr underlying123 kyO kr (1,oz,og) kr kr (j:=2) h23 rfl (.agg #[.string (St L),iV (-1),iV 0,iV 0,iV 2]) _ hG rfl) ?_
  refine⟨kd [],nxG ?_⟩
  refine g0<|nG (fun q_=>pV q_) 127 [.string (St []),iV 0,iV 0,iV 0,iV 0] h23 (fun r24 _ h26=>⟨kd [],?_⟩)
  refine sB [.string (St L),iV (-1),iV 0,iV 0,iV 2] h26 fun _ h28=>⟨kd [],?_⟩
  refine go [rd 8 1 0 4 1 h28,rd 10 1 0 1 1 h28]<|dw (fls [0,1,2,3,4,5,6,7,8] (Tr.an 9 (Tr.fl 10 (Tr.an 11 (Tr.fl 12 (Tr.an 13 Tr.nil)))))) h28 fun _ h30=>go [rd 11 3 1 0 1 h30,rd 11 5 2 0 1 h30,rd 11 7 2 4 1 h30]<|sG [(1,iV tz)] [.string (St L),iV tz,iV 0,iV 0,iV 2] h30 fun _ h32=>⟨kd [rd 0 7 2 4 1 h32,rd 0 5 2 0 1 h32],?_⟩
  refine g0<|sG [(2,iV 0)] [.string (St L),iV tz,iV 0,iV 0,iV 2] h32 fun _ h34=>⟨kd [rd 0 7 2 4 1 h34],?_⟩
  refine g0<|sG [(3,iV wy)] [.string (St L),iV tz,iV 0,iV wy,iV 2] h34 fun _ h36=>⟨kd [],?_⟩
  refine go [rd 12 1 2 5 1 h36]<|sP [(4,iV 3)] [.string (St L),iV tz,iV 0,iV wy,iV 3] h36 fun _ h38=> ?_
  have h39:=h38.a.t5
  refine go [rd 17 3 1 0 1 h38,.v 17 4 (oIr (tz+1))]<|sP [(0,iV (tz+1))] [iV (tz+1),.map (some mm10)] h39 fun _ h41=>g0<|dw (fls [0,1,2,3,4,5,6] (Tr.an 7 Tr.nil)) h41 fun _ h43=> ?_
  have h44:=h43.c.t5
  refine go [rd 18 3 0 1 1 h43,rd 18 5 2 1 3 h43,rd 18 6 1 0 5 h43] ?_
  refine actG ?_
  refine ag_mapUpdate (t:=123) (m:=Ot 65) (x:=Ot 67) (y:=Ot 68) (kv:=kv) (ve:=vKnT) kr kr underlying123 kyO (1,oz,og) (L,tz,0,wy,3) kr kr kr h44 (gset E (1,oz,og) (L,tz,0,wy,3)) rfl ?_
  intro w45 h46
  refine⟨kd [],nxN ?_⟩
  refine g0 ?_
  have h47:sat g w45 [Gp kv vKnT mm10 E2,Cl b [iV (tz+1),.map (some mm10)] 125,Cl r24 [.string (St L),iV tz,iV 0,iV wy,iV 3] 127,Cl r14 [iV 0,iV 1,iV oz,uV og,iV wy,iV 1] 50,R]:=by rw[←hS];exact h46
  have h49:sat g _ (Rpo b (tz+1) E2::_):=Rpo_close b (tz+1) E2 mm10 om h47.a.t5
  exact enR _ [] h49.c.a.t2
 refine nG (fun q_=>pV q_) 127 [.string (St []),iV 0,iV 0,iV 0,iV 0] h23 (fun r51 _ h53=>⟨kd [rd 0 5 2 1 3 h53,rd 0 3 1 1 1 h53],?_⟩)
 refine actG ?_
 refine act_law (d:=22) (.tuple #[.agg #[.string (St L),iV (-1),iV 0,iV 0,iV 2],.bool true]) kr rfl (law_lkH (t:=123) (z:= .agg #[.string (St []),iV 0,iV 0,iV 0,iV 0]) (m:=Ot 19) (x:=Ot 21) (kv:=kv) (ve:=vKnT) kr underlying123 kyO kr (1,oz,og) kr kr (j:=3) h53 rfl (.agg #[.string (St L),iV (-1),iV 0,iV 0,iV 2]) _ hG rfl) ?_
 refine⟨kd [],nxG ?_⟩
 refine g0<|sB [.string (St L),iV (-1),iV 0,iV 0,iV 2] h53 fun _ h55=>⟨kd [],?_⟩
 refine go [rd 8 1 0 4 1 h55,rd 10 1 0 1 1 h55]<|dw (fls [0,1,2,3,4,5,6,7,8] (Tr.an 9 (Tr.fl 10 (Tr.an 11 (Tr.fl 12 (Tr.an 13 Tr.nil)))))) h55 fun _ h57=>go [rd 11 3 1 0 1 h57,rd 11 5 2 0 1 h57,rd 11 7 2 4 1 h57]<|sG [(1,iV tz)] [.string (St L),iV tz,iV 0,iV 0,iV 2] h57 fun _ h59=>⟨kd [rd 0 7 2 4 1 h59,rd 0 5 2 0 1 h59],?_⟩
 refine g0<|sG [(2,iV 0)] [.string (St L),iV tz,iV 0,iV 0,iV 2] h59 fun _ h61=>⟨kd [rd 0 7 2 4 1 h61],?_⟩
 refine g0<|sG [(3,iV wy)] [.string (St L),iV tz,iV 0,iV wy,iV 2] h61 fun _ h63=>⟨kd [],?_⟩
 refine go [rd 12 1 2 5 1 h63]<|sP [(4,iV 3)] [.string (St L),iV tz,iV 0,iV wy,iV 3] h63 fun _ h65=> ?_
 have h66:=h65.a.t5
 refine go [rd 17 3 1 0 1 h65,.v 17 4 (oIr (tz+1))]<|sP [(0,iV (tz+1))] [iV (tz+1),.map (some mm10)] h66 fun _ h68=>g0<|dw (fls [0,1,2,3,4,5,6] (Tr.an 7 Tr.nil)) h68 fun _ h70=> ?_
 have h71:=h70.c.t5
 refine go [rd 18 3 0 1 1 h70,rd 18 5 2 1 3 h70,rd 18 6 1 0 5 h70] ?_
 refine actG ?_
 refine ag_mapUpdate (t:=123) (m:=Ot 65) (x:=Ot 67) (y:=Ot 68) (kv:=kv) (ve:=vKnT) kr kr underlying123 kyO (1,oz,og) (L,tz,0,wy,3) kr kr kr h71 (gset E (1,oz,og) (L,tz,0,wy,3)) rfl ?_
 intro w72 h73
 refine⟨kd [],nxN ?_⟩
 refine g0 ?_
 have h74:sat g w72 [Gp kv vKnT mm10 E2,Cl b [iV (tz+1),.map (some mm10)] 125,Cl r51 [.string (St L),iV tz,iV 0,iV wy,iV 3] 127,Cl r14 [iV 0,iV 1,iV oz,uV og,iV wy,iV 1] 50,R]:=by rw[←hS];exact h73
 have h76:sat g _ (Rpo b (tz+1) E2::_):=Rpo_close b (tz+1) E2 mm10 om h74.a.t5
 exact enR _ [] h76.c.a.t2
theorem nan_int(za:Int):HQ 125 [iV za] [] (.bool false) []:=by
 refine hiS func125 ntmps125 fun g w0 R h0=>go [.v 1 2 (qnF za za)] ?_
 exact enR _ [] h0
theorem cmp_int(za zb:Int):HQ 53 [iV za,iV zb] [] (iV (cmpI za zb)) []:=by
 refine hiS func53 ntmps53 fun g w0 R h0=>g0<|cl0 call125 (nan_int za) h0 fun _ h11=>g0<|cl0 call125 (nan_int zb) h11 fun _ h13=>go [.s 9 2] ?_
 by_cases c14:za<zb
 ·
  refine go [.v 9 2 (oT _ c14)] ?_
  exact en (iV (-1)) [] ⟨_,_,rfl,⟨by unfold cmpI;rw[if_pos om],rfl⟩,h13⟩
 refine go [.v 9 2 (oF _ c14),.s 11 2] ?_
 by_cases c15:za>zb
 ·
  refine go [.v 11 2 (oT _ c15)] ?_
  exact en (iV 1) [] ⟨_,_,rfl,⟨by unfold cmpI;rw[if_neg om,if_pos om],rfl⟩,h13⟩
 refine go [.v 11 2 (oF _ c15)] ?_
 exact en (iV 0) [] ⟨_,_,rfl,⟨by unfold cmpI;rw[if_neg om,if_neg om],rfl⟩,h13⟩
theorem nan_int64(za:Int):HQ 451 [iV za] [] (.bool false) []:=by
 refine hiS func451 ntmps451 fun g w0 R h0=>go [.v 1 2 (qnF za za)] ?_
 exact enR _ [] h0
theorem cmp_int64(za zb:Int):HQ 417 [iV za,iV zb] [] (iV (cmpI za zb)) []:=by
 refine hiS func417 ntmps417 fun g w0 R h0=>g0<|cl0 call451 (nan_int64 za) h0 fun _ h11=>g0<|cl0 call451 (nan_int64 zb) h11 fun _ h13=>go [.s 9 2] ?_
 by_cases c14:za<zb
 ·
  refine go [.v 9 2 (oT _ c14)] ?_
  exact en (iV (-1)) [] ⟨_,_,rfl,⟨by unfold cmpI;rw[if_pos om],rfl⟩,h13⟩
 refine go [.v 9 2 (oF _ c14),.s 11 2] ?_
 by_cases c15:za>zb
 ·
  refine go [.v 11 2 (oT _ c15)] ?_
  exact en (iV 1) [] ⟨_,_,rfl,⟨by unfold cmpI;rw[if_neg om,if_pos om],rfl⟩,h13⟩
 refine go [.v 11 2 (oF _ c15)] ?_
 exact en (iV 0) [] ⟨_,_,rfl,⟨by unfold cmpI;rw[if_neg om,if_neg om],rfl⟩,h13⟩
theorem or_ht(r:Nat)(za zb:Int):HQ 416 [.slice (some ⟨r,0,none⟩) 2 2] [Cl r [iV za,iV zb] 3] (iV (if za≠0 then za else zb)) [Cl r [iV za,iV zb] 3]:=by
 refine hiS func416 ntmps416 fun g w0 R h0=>go [.v 2 1 (oJ .i64 (2:Int) 2)]<|unS 2<|go [.s 4 0]<|lwP (pV r) (liS (Ot 6) (Ot 8) r 0 0 2 2 underlying134 1 0 0)<|go [rd 4 1 0 0 1 h0,.s 5 2] ?_
 by_cases c10:za=0
 ·
  refine go [.v 5 2 (qnF za 0)]<|unN<|go [.s 4 0]<|lwP (.pointer (some ⟨r,1,none⟩)) (liS (Ot 6) (Ot 8) r 0 1 2 2 underlying134 1 1 1)<|go [rd 4 1 0 1 1 h0,.s 5 2] ?_
  by_cases c11:zb=0
  ·
   refine go [.v 5 2 (qnF zb 0)]<|unN<|g0<|up<|g0 ?_
   exact en (iV 0) [] ⟨_,_,rfl,⟨by rw[show (if za≠0 then za else zb)=0 from by split<;>omega],rfl⟩,h0⟩
  refine go [.v 5 2 (qnT zb 0)]<|up<|g0 ?_
  exact en (iV zb) [] ⟨_,_,rfl,⟨by rw[show (if za≠0 then za else zb)=zb from by split<;>omega],rfl⟩,h0⟩
 refine go [.v 5 2 (qnT za 0)]<|up<|g0 ?_
 exact en (iV za) [] ⟨_,_,rfl,⟨by rw[show (if za≠0 then za else zb)=za from by split<;>omega],rfl⟩,h0⟩
theorem ovalid_ht(W:World)(b ts tm tc:Nat)(p:Option Addr)(S:Ts)(c:W.cell? ⟨b,0,none⟩=some (.pointer (some ⟨ts,0,none⟩)))(a:W.cell? ⟨b,1,none⟩=some (.map (some tm)))(d:W.cell? ⟨b,2,none⟩=some (.slice p S.R.length tc))(hR:Rd W p S.R.length (fl eRs S.R))(hrl:S.R.length≤2000):HQ 119 [pV b] [Old W] (.bool true) [Old W]:=by
 refine hiS func119 ntmps119 fun g w0 R h0=>go [.r 1 6 b 1 [.map (some tm)] ⟨sat_cellOld h0 0 rfl a,trivial⟩] ?_
 exact enR _ [] h0
theorem ocheck_ok(W:World)(b ts tm tc:Nat)(p:Option Addr)(S:Ts)(c:W.cell? ⟨b,0,none⟩=some (.pointer (some ⟨ts,0,none⟩)))(d:W.cell? ⟨b,1,none⟩=some (.map (some tm)))(a:W.cell? ⟨b,2,none⟩=some (.slice p S.R.length tc))(hR:Rd W p S.R.length (fl eRs S.R))(hrl:S.R.length≤2000)(vn:Int)(h:1≤vn∧vn≤(S.R.length:Int)):HQ 284 [pV b,iV vn] [Old W] (iV 0) [Old W]:=by
 refine hiS func284 ntmps284 fun g w0 R h0=>g0<|cl1 call119 (ovalid_ht W b ts tm tc p S c d a hR hrl) h0 fun _ h11=>go [.v 3 1 (oF (vn<1)),.r 3 7 b 2 [.slice p S.R.length tc] ⟨sat_cellOld h11 0 rfl a,trivial⟩,.v 3 9 (oF (vn>(S.R.length:Int)))] ?_
 exact enR _ [] h11
theorem ocheck_no(W:World)(b ts tm tc:Nat)(p:Option Addr)(S:Ts)(c:W.cell? ⟨b,0,none⟩=some (.pointer (some ⟨ts,0,none⟩)))(d:W.cell? ⟨b,1,none⟩=some (.map (some tm)))(a:W.cell? ⟨b,2,none⟩=some (.slice p S.R.length tc))(hR:Rd W p S.R.length (fl eRs S.R))(hrl:S.R.length≤2000)(vn:Int)(h:vn<1∨(S.R.length:Int)<vn):HQ 284 [pV b,iV vn] [Old W] (iV 3) [Old W]:=by
 refine hiS func284 ntmps284 fun g w0 R h0=>g0<|cl1 call119 (ovalid_ht W b ts tm tc p S c d a hR hrl) h0 fun _ h11=>go [.s 3 1] ?_
 by_cases c12:vn<1
 ·
  refine go [.v 3 1 (oT _ c12)] ?_
  exact enR _ [] h11
 refine go [.v 3 1 (oF _ c12),.r 3 7 b 2 [.slice p S.R.length tc] ⟨sat_cellOld h11 0 rfl a,trivial⟩,.v 3 9 (oT (vn>(S.R.length:Int)))] ?_
 exact enR _ [] h11
theorem oget_no(W:World)(b ts tm tc:Nat)(p:Option Addr)(S:Ts)(c:W.cell? ⟨b,0,none⟩=some (.pointer (some ⟨ts,0,none⟩)))(d:W.cell? ⟨b,1,none⟩=some (.map (some tm)))(e:W.cell? ⟨b,2,none⟩=some (.slice p S.R.length tc))(hR:Rd W p S.R.length (fl eRs S.R))(hrl:S.R.length≤2000)(vn:Int)(h:vn<1∨(S.R.length:Int)<vn):HQ 210 [pV b,iV vn] [Old W] (.tuple #[.agg #[iV 0,iV 0,uV 0,iV 0,iV 0,iV 0,iV 0,.string (St [])],iV 3]) [Old W]:=by
 refine hiS func210 ntmps210 fun g w0 R h0=>g0<|nP 226 [iV 0,iV 0,uV 0,iV 0,iV 0,iV 0,iV 0,.string (St [])] h0 (fun _ _ h12=> ?_)
 have h13:=h12.a.t3
 refine g0<|cl1 call284 (ocheck_no W b ts tm tc p S c d e hR hrl vn om) h13 fun _ h15=> ?_
 have h16:=h15.a.t3
 refine g0<|sA [iV 0,iV 0,uV 0,iV 0,iV 0,iV 0,iV 0,.string (St [])] h16 fun _ h18=>g0 ?_
 exact enR _ [rd 0 0 0 0 8 h18] (tk2 (sf1 (sf2 h18.a.t3)))
theorem oget_ok(W:World)(b ts tm tc:Nat)(p:Option Addr)(S:Ts)(d:W.cell? ⟨b,0,none⟩=some (.pointer (some ⟨ts,0,none⟩)))(e:W.cell? ⟨b,1,none⟩=some (.map (some tm)))(c:W.cell? ⟨b,2,none⟩=some (.slice p S.R.length tc))(hR:Rd W p S.R.length (fl eRs S.R))(hrl:S.R.length≤2000)(vn:Int)(q:Nat)(r:Rs)(hr:S.R[q]? =some r)(hv:vn=(q:Int)+1):HQ 210 [pV b,iV vn] [Old W] (.tuple #[.agg #[iV r.out.1,iV r.out.2.1,uV r.out.2.2,iV r.st,iV r.why,iV r.tr,iV r.nx,.string (St r.tag)],iV 0]) [Old W]:=by
 refine hiS func210 ntmps210 fun g w0 R h0=> ?_
 have hq_:=(List.getElem?_eq_some_iff.1 hr).1
 refine g0<|nP 226 [iV 0,iV 0,uV 0,iV 0,iV 0,iV 0,iV 0,.string (St [])] h0 (fun _ _ h12=> ?_)
 have h13:=h12.a.t3
 refine g0<|cl1 call284 (ocheck_ok W b ts tm tc p S d e c hR hrl vn om) h13 fun _ h15=> ?_
 obtain⟨b16,off18,hp17⟩:=gv_ptr (j:=0) h15 rfl (gv_old hR) om
 refine go [.r 4 3 b 2 [.slice p S.R.length tc] ⟨sat_cellOld h15 0 rfl c,trivial⟩,.v 4 5 (oIr (vn-1)),.s 4 6]<|lwP (.pointer (some ⟨b16,off18+q*8,none⟩)) (liP (Ot 17) (Ot 19) p b16 off18 (vn-1) S.R.length tc underlying175 8 q hp17 (off18+q*8)) ?_
 have h19:=h15.a.t3
 refine go [.r 4 7 b16 (off18+q*8) [iV r.out.1,iV r.out.2.1,uV r.out.2.2,iV r.st,iV r.why,iV r.tr,iV r.nx,.string (St r.tag)] ⟨gv_cell (j:=0) h15 rfl (gv_old hR) hp17 (fl_get eRs_ok (j:=0) (v:=iV r.out.1) hr rfl) (off18+q*8) om,gv_cell (j:=0) h15 rfl (gv_old hR) hp17 (fl_get eRs_ok (j:=1) (v:=iV r.out.2.1) hr rfl) (off18+q*8+1) om,gv_cell (j:=0) h15 rfl (gv_old hR) hp17 (fl_get eRs_ok (j:=2) (v:=uV r.out.2.2) hr rfl) (off18+q*8+2) om,gv_cell (j:=0) h15 rfl (gv_old hR) hp17 (fl_get eRs_ok (j:=3) (v:=iV r.st) hr rfl) (off18+q*8+3) om,gv_cell (j:=0) h15 rfl (gv_old hR) hp17 (fl_get eRs_ok (j:=4) (v:=iV r.why) hr rfl) (off18+q*8+4) om,gv_cell (j:=0) h15 rfl (gv_old hR) hp17 (fl_get eRs_ok (j:=5) (v:=iV r.tr) hr rfl) (off18+q*8+5) om,gv_cell (j:=0) h15 rfl (gv_old hR) hp17 (fl_get eRs_ok (j:=6) (v:=iV r.nx) hr rfl) (off18+q*8+6) om,gv_cell (j:=0) h15 rfl (gv_old hR) hp17 (fl_get eRs_ok (j:=7) (v:= .string (St r.tag)) hr rfl) (off18+q*8+7) om,trivial⟩]<|sA [iV r.out.1,iV r.out.2.1,uV r.out.2.2,iV r.st,iV r.why,iV r.tr,iV r.nx,.string (St r.tag)] h19 fun _ h21=>g0 ?_
 exact enR _ [rd 0 0 0 0 8 h21] (tk2 (sf1 (sf2 h21.a.t3)))
theorem oget_ht(W:World)(b ts tm tc:Nat)(p:Option Addr)(S:Ts)(a:W.cell? ⟨b,0,none⟩=some (.pointer (some ⟨ts,0,none⟩)))(c:W.cell? ⟨b,1,none⟩=some (.map (some tm)))(d:W.cell? ⟨b,2,none⟩=some (.slice p S.R.length tc))(hR:Rd W p S.R.length (fl eRs S.R))(hrl:S.R.length≤2000)(vn:Int):HQ 210 [pV b,iV vn] [Old W] (Value.tuple #[Value.agg #[iV ((getR S vn).out.1),iV ((getR S vn).out.2.1),uV ((getR S vn).out.2.2),iV ((getR S vn).st),iV ((getR S vn).why),iV ((getR S vn).tr),iV ((getR S vn).nx),Value.string (St ((getR S vn).tag))],iV (nE S vn)]) [Old W]:=by
 unfold nE
 by_cases h:1≤vn∧vn≤(S.R.length:Int)
 · rw[if_pos h]
   exact oget_ok W b ts tm tc p S a c d hR hrl vn (vn-1).toNat (getR S vn) (getR_at h) om
 · rw[if_neg h,getR_no h]
   exact oget_no W b ts tm tc p S a c d hR hrl vn om
theorem oclo1_ht(W:World)(b ts tm tc:Nat)(p:Option Addr)(S:Ts)(c:W.cell? ⟨b,0,none⟩=some (.pointer (some ⟨ts,0,none⟩)))(d:W.cell? ⟨b,1,none⟩=some (.map (some tm)))(e:W.cell? ⟨b,2,none⟩=some (.slice p S.R.length tc))(hR:Rd W p S.R.length (fl eRs S.R))(hrl:S.R.length≤2000)(c1:Nat)(hc1:W.cell? ⟨c1,0,none⟩=some (.pointer (some ⟨b,0,none⟩)))(vn:Int):HQ 413 [iV vn,pV c1] [Old W] (iV (nxR S vn)) [Old W]:=by
 refine hiS func413 ntmps413 fun g w0 R h0=>go [.r 1 0 c1 0 [pV b] ⟨sat_cellOld h0 0 rfl hc1,trivial⟩]<|cl1 call210 (oget_ht W b ts tm tc p S c d e hR hrl vn) h0 fun _ h11=>g0<|nP 226 [iV 0,iV 0,uV 0,iV 0,iV 0,iV 0,iV 0,.string (St [])] h11 (fun _ _ h14=> ?_)
 refine sA [iV ((getR S vn).out.1),iV ((getR S vn).out.2.1),uV ((getR S vn).out.2.2),iV ((getR S vn).st),iV ((getR S vn).why),iV ((getR S vn).tr),iV ((getR S vn).nx),.string (St ((getR S vn).tag))] h14 fun _ h16=>go [rd 2 1 0 6 1 h16] ?_
 exact enR (iV ((getR S vn).nx)) [] (tk2 (sf1 (sf2 h16.a.t3)))
theorem oclo2_ht(W:World)(b ts tm tc:Nat)(p:Option Addr)(S:Ts)(c:W.cell? ⟨b,0,none⟩=some (.pointer (some ⟨ts,0,none⟩)))(d:W.cell? ⟨b,1,none⟩=some (.map (some tm)))(e:W.cell? ⟨b,2,none⟩=some (.slice p S.R.length tc))(hR:Rd W p S.R.length (fl eRs S.R))(hrl:S.R.length≤2000)(c1:Nat)(hc1:W.cell? ⟨c1,0,none⟩=some (.pointer (some ⟨b,0,none⟩)))(c3:Nat)(hc3:W.cell? ⟨c3,0,none⟩=some (.func (Fn.func 413) #[] #[pV c1]))(za zb:Int):HQ 415 [iV za,iV zb,pV c3] [Old W] (iV (cfB S za zb)) [Old W]:=by
 refine hiS func415 ntmps415 fun g w0 R h0=>g0<|dw (fls [0,1,3,4,7,8] (Tr.an 2 (Tr.an 5 (Tr.an 6 (Tr.an 9 (Tr.an 10 (Tr.an 11 (Tr.fl 12 Tr.nil)))))))) h0 fun _ h11=>go [.r 1 0 c3 0 [.func (Fn.func 413) #[] #[pV c1]] ⟨sat_cellOld h11 0 rfl hc3,trivial⟩,.r 1 3 c3 0 [.func (Fn.func 413) #[] #[pV c1]] ⟨sat_cellOld h11 0 rfl hc3,trivial⟩]<|cw1 call413 (oclo1_ht W b ts tm tc p S c d e hR hrl c1 hc1 za) h11 fun _ h13=>⟨kd [.r 0 3 c3 0 [.func (Fn.func 413) #[] #[pV c1]] ⟨sat_cellOld h13 0 rfl hc3,trivial⟩],?_⟩
 refine cw1 call413 (oclo1_ht W b ts tm tc p S c d e hR hrl c1 hc1 zb) h13 fun _ h15=>⟨kd [],?_⟩
 refine cw0 call417 (cmp_int64 (nxR S za) (nxR S zb)) h15 fun _ h17=>⟨kd [],?_⟩
 refine cw0 call53 (cmp_int za zb) h17 fun _ h19=>⟨kd [],?_⟩
 refine nG (fun q_=> .slice (some ⟨q_,0,none⟩) 2 2) 3 [iV (cmpI (nxR S za) (nxR S zb)),iV (cmpI za zb)] h19 (fun r20 _ h22=>⟨kd [],?_⟩)
 refine cw1 call416 (or_ht r20 (cmpI (nxR S za) (nxR S zb)) (cmpI za zb)) h22 fun _ h24=>⟨kd [],?_⟩
 refine g0 ?_
 exact enR (iV (if (cmpI (nxR S za) (nxR S zb))≠0 then (cmpI (nxR S za) (nxR S zb)) else (cmpI za zb))) [] (tk2 (sf1 (sf2 h24.a.t3)))
end Go.Proofs.YtcgkoffnknpgjaaGreatDoor
