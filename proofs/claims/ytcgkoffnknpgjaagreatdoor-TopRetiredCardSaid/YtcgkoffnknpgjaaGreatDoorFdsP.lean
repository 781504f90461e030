/-
  Tables of slots and of files, as plain functions of lists. No program in sight.
-/
import Derived.Test.YtcgkoffnknpgjaaGreatDoorMap
namespace Go.Proofs.YtcgkoffnknpgjaaGreatDoor
set_option linter.unusedVariables false
set_option linter.unusedSimpArgs false
abbrev Sl2:=Int×Int
def eSl(s:Sl2):List Value:= [.int .i64 s.1,.int .u32 s.2]
theorem eSl_ok:Enc 2 eSl:=⟨fun _=>rfl,fun x v hv=>by simp[eSl] at hv;rcases hv with rfl |rfl<;>rfl⟩
def eO(o:Ky):List Value:= [.int .i64 o.1,.int .i64 o.2.1,.int .u32 o.2.2]
theorem eO_ok:Enc 3 eO:=⟨fun _=>rfl,fun x v hv=>by simp[eO] at hv;rcases hv with rfl |rfl |rfl<;>rfl⟩
def inS(q:Int):List Sl2→Nat→List (Nat×Int)
 | [],_=> []
 |s::A,k=>if s.1=q then (k,s.2)::inS q A (k+1) else inS q A (k+1)
theorem inS_app(q:Int)(A B:List Sl2): ∀k,inS q (A++B) k=inS q A k++inS q B (k+A.length):=by
 induction A with
 |nil=>intro k;simp[inS]
 |cons s A ih=>
  intro k
  simp only[List.cons_append,inS,List.length_cons]
  rw[ih,show k+1+A.length=k+(A.length+1) from by omega]
  split
  · simp
  · rfl
def cnt(q:Int)(A:List Sl2)(i:Nat):Nat:=(inS q (A.take i) 0).length
theorem inS_take{q:Int}{A:List Sl2}{i:Nat}{s:Sl2}(h:A[i]? =some s):inS q (A.take (i+1)) 0=inS q (A.take i) 0++(if s.1=q then [(i,s.2)] else []):=by
 have hi:=(List.getElem?_eq_some_iff.1 h).1
 rw[List.take_add_one,h,inS_app,Nat.zero_add,List.length_take,Nat.min_eq_left om]
 simp only[Option.toList_some,inS]
theorem cnt_go{q:Int}{A:List Sl2}{i:Nat}{s:Sl2}(h:A[i]? =some s)(hs:s.1=q):cnt q A (i+1)=cnt q A i+1:=by
 unfold cnt
 rw[inS_take h,if_pos hs,List.length_append]
 rfl
theorem cnt_no{q:Int}{A:List Sl2}{i:Nat}{s:Sl2}(h:A[i]? =some s)(hs:s.1≠q):cnt q A (i+1)=cnt q A i:=by
 unfold cnt
 rw[inS_take h,if_neg hs,List.append_nil]
theorem inS_at{q:Int}{A:List Sl2}{i:Nat}{s:Sl2}(h:A[i]? =some s)(hs:s.1=q):(inS q A 0)[cnt q A i]? =some (i,s.2):=by
 have h1:inS q A 0=inS q (A.take (i+1)) 0++inS q (A.drop (i+1)) (A.take (i+1)).length:=by
  have:=inS_app q (A.take (i+1)) (A.drop (i+1)) 0
  rw[List.take_append_drop,Nat.zero_add] at this
  exact this
 rw[h1,inS_take h,if_pos hs]
 unfold cnt
 simp
theorem getD_some{α:Type}{l:List α}{i:Nat}{x d:α}(hx:l[i]? =some x):l.getD i d=x:=by simp[List.getD,hx]
theorem inS_mem{q:Int}: ∀ {A:List Sl2} {k i j:Nat} {z:Int},(inS q A k)[i]? =some (j,z)→k≤j∧A[j-k]? =some (q,z)
 | [],k,i,j,z,h=>by simp[inS] at h
 |s::A,k,i,j,z,h=>by
  simp only[inS] at h
  split at h
  · rename_i hs
    cases i with
    |zero=>
     simp only[List.getElem?_cons_zero,Option.some.injEq,Prod.mk.injEq] at h
     obtain⟨rfl,rfl⟩:=h
     subst hs
     exact⟨Nat.le_refl _,by simp⟩
    |succ i=>
     obtain⟨h1,h2⟩:=inS_mem (by simpa using h)
     refine⟨by omega,?_⟩
     rw[show j-k=(j-(k+1))+1 from by omega,List.getElem?_cons_succ]
     exact h2
  · obtain⟨h1,h2⟩:=inS_mem h
    refine⟨by omega,?_⟩
    rw[show j-k=(j-(k+1))+1 from by omega,List.getElem?_cons_succ]
    exact h2
theorem inS_get{q:Int}{A:List Sl2}{i:Nat}(h:i<(inS q A 0).length):A[((inS q A 0).getD i (0,0)).1]? =some (q,((inS q A 0).getD i (0,0)).2):=by
 have h1:(inS q A 0)[i]? =some ((inS q A 0)[i]):=List.getElem?_eq_getElem h
 rw[getD_some h1]
 have:=inS_mem (show (inS q A 0)[i]? =some (((inS q A 0)[i]).1,((inS q A 0)[i]).2) from h1)
 simpa using this.2
theorem cnt_le(q:Int)(A:List Sl2)(i:Nat):cnt q A i≤(inS q A 0).length:=by
 have h1:inS q A 0=inS q (A.take i) 0++inS q (A.drop i) (A.take i).length:=by
  have:=inS_app q (A.take i) (A.drop i) 0
  rw[List.take_append_drop,Nat.zero_add] at this
  exact this
 unfold cnt
 rw[h1,List.length_append]
 omega
theorem cnt_all(q:Int){A:List Sl2}{i:Nat}(h:A.length≤i):cnt q A i=(inS q A 0).length:=by unfold cnt;rw[List.take_of_length_le h]
def takeV(A:List Sl2):Int×Int×Int:=if 0<(inS 0 A 0).length then ((((inS 0 A 0).getD 0 (0,0)).1:Int),((inS 0 A 0).getD 0 (0,0)).2,0) else (0,0,4)
def takeA(A:List Sl2):List Sl2:=if 0<(inS 0 A 0).length then A.set ((inS 0 A 0).getD 0 (0,0)).1 (1,((inS 0 A 0).getD 0 (0,0)).2) else A
theorem take_none{A:List Sl2}(h:(inS 0 A 0).length=0):takeV A=(0,0,4)∧takeA A=A:=by
 unfold takeV takeA
 rw[if_neg om,if_neg om]
 exact⟨rfl,rfl⟩
theorem take_some{A:List Sl2}(h:0<(inS 0 A 0).length):takeV A=((((inS 0 A 0).getD 0 (0,0)).1:Int),((inS 0 A 0).getD 0 (0,0)).2,0)∧takeA A=A.set ((inS 0 A 0).getD 0 (0,0)).1 (1,((inS 0 A 0).getD 0 (0,0)).2):=by
 unfold takeV takeA
 rw[if_pos h,if_pos h]
 exact⟨rfl,rfl⟩
theorem inS_len(q:Int): ∀(A:List Sl2) (k:Nat),(inS q A k).length≤A.length
 | [],k=>Nat.le_refl _
 |s::A,k=>by
  have:=inS_len q A (k+1)
  simp only[inS]
  split
  · simp only[List.length_cons];omega
  · simp only[List.length_cons];omega
theorem take_getD{α:Type}{l:List α}{i:Nat}{d:α}(h:i<l.length):l.take i++ [l.getD i d]=l.take (i+1):=by
 rw[List.take_add_one,List.getElem?_eq_getElem h,getD_some (List.getElem?_eq_getElem h)]
 rfl
def giveA(A:List Sl2)(q:Nat)(z:Int):List Sl2:=if z<4294967295 then A.set q (0,z+1) else A.set q (2,z)
def eRf(r:Nat×Int):List Value:= [.int .i64 (r.1:Int),.int .u32 r.2]
theorem eRf_ok:Enc 2 eRf:=⟨fun _=>rfl,fun x v hv=>by simp[eRf] at hv;rcases hv with rfl |rfl<;>rfl⟩
theorem rep_put{α:Type}(x y z:α): ∀(i n:Nat),i<n→(List.replicate i x++List.replicate (n-i) y)[i]? =some y∧(List.replicate i x++List.replicate (n-i) y).set i z=List.replicate i x++z::List.replicate (n-(i+1)) y:=by
 intro i n h
 rw[show n-i=(n-(i+1))+1 from by omega,List.replicate_succ]
 constructor
 · rw[List.getElem?_append_right (by rw[List.length_replicate];omega),List.length_replicate,Nat.sub_self]
   rfl
 · rw[List.set_append_right _ _ (by rw[List.length_replicate];omega),List.length_replicate,Nat.sub_self]
   rfl
theorem rep_go{α:Type}(x:α)(i:Nat)(T:List α):List.replicate i x++x::T=List.replicate (i+1) x++T:=by
 rw[List.replicate_succ',List.append_assoc]
 rfl
end Go.Proofs.YtcgkoffnknpgjaaGreatDoor
