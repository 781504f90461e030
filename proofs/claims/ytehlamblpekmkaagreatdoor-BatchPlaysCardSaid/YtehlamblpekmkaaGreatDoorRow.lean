/-
  What came in, opened: ints, bools, strings, structs, slices of what lies flat. No program in sight.
-/
import Derived.Test.YtehlamblpekmkaaGreatDoorLst
import Derived.OpenShut
import Derived.Deep.Slices
import Derived.ChangeArms
import Derived.WideShapes
namespace Go.Proofs.YtehlamblpekmkaaGreatDoor
open Go.ChangeShapes Go.WideShapes Go.Deep
section
variable {H : Type} {enc : TypeId × Value → H} {P : Program} {w : World} {base : Nat} {spare : Nat → Bool} {held : Bool} {fuel : Nat} {cs : List Value} {x : DataW H × List MemPlace} {t : TypeId}
theorem rd_int{k:IntKind}(ht:P.underlying t=some (.int k))(h:DataW.trod enc P w base spare held fuel t cs=some x): ∃z:Int,cs= [.int k z]∧k.min≤z∧z≤k.max:=by
 obtain⟨z,h1,_,h2⟩:=DataW.trod_int ht h
 simp only[Lit.wf,Bool.and_eq_true,decide_eq_true_eq] at h2
 exact⟨z,h1,h2⟩
theorem rd_parts{fs:Array Field}(ht:P.underlying t=some (.struct fs))(h:DataW.trod enc P w base spare held fuel t cs=some x):
  cs.length=P.cellsOf t∧ ∀(i:Nat) (f:Field),fs[i]? =some f→ ∃y n,DataW.trod enc P w base spare held n f.type ((cs.drop f.offset).take (P.cellsOf f.type))=some y:=by
 obtain⟨xs,n,_,_,hl,hlen,hf⟩:=DataW.trod_struct ht h
 refine⟨hl,fun i f hi=> ?_⟩
 have h1:i<xs.length:=by rw[hlen];exact(Array.getElem?_eq_some_iff.1 hi).1
 exact⟨xs[i],n,(hf i f hi).trans (List.getElem?_eq_getElem h1)⟩
theorem rd_field{fs:Array Field}(ht:P.underlying t=some (.struct fs))(h:DataW.trod enc P w base spare held fuel t cs=some x)(i:Nat)(f:Field)(hi:fs[i]? =some f)(k:Nat)(hk:P.cellsOf f.type=k):
  ∃y n,DataW.trod enc P w base spare held n f.type ((cs.drop f.offset).take k)=some y:=by
 subst hk
 exact(rd_parts ht h).2 i f hi
theorem rd_list{α:Type}{f:α→List Value}{sz:Nat}(E:Enc sz f){ok:α→Prop}(a:Addr): ∀n,(∀i,i<n→ ∃y,ok y∧ ∀j,j<sz→w.cell? (a.add (i*sz+j))=(f y)[j]?)→
  ∃L:List α,L.length=n∧(∀y∈L,ok y)∧ ∀k v,(fl f L)[k]? =some v→w.cell? (a.add k)=some v
 |0,_=>⟨[],rfl,(fun _ h=>nomatch h),fun k v h=>nomatch (show ([]:List Value)[k]? =some v from h)⟩
 |n+1,h=>by
  obtain⟨L,h1,h2,h3⟩:=rd_list E a n (fun i hi=>h i om)
  obtain⟨y,hy,hc⟩:=h n om
  refine⟨L++ [y],by simp[h1],fun z hz=> ?_,fun k v hk=> ?_⟩
  · rcases List.mem_append.1 hz with hz|hz
    · exact h2 z hz
    · rcases List.mem_singleton.1 hz with rfl
      exact hy
  · rw[fl_app] at hk
    by_cases hlt:k<(fl f L).length
    · rw[List.getElem?_append_left hlt] at hk
      exact h3 k v hk
    · rw[List.getElem?_append_right om] at hk
      have hl:=fl_len E L
      rw[h1] at hl
      have hk':(f y)[k-(fl f L).length]? =some v:=by simpa [fl] using hk
      have hj:k-(fl f L).length<sz:=by have:=(List.getElem?_eq_some_iff.1 hk').1;rw[E.len] at this;exact this
      have h4:=hc (k-(fl f L).length) hj
      rw[hk',show n*sz+(k-(fl f L).length)=k from by omega] at h4
      exact h4
theorem rd_slice{α:Type}{f:α→List Value}{sz:Nat}(E:Enc sz f){ok:α→Prop}{e:TypeId}(hz:0<sz)(ht:P.underlying t=some (.slice e))(hC:P.cellsOf e=sz)
 (hQ: ∀ {n:Nat} {c:List Value} {y:DataW H×List MemPlace},DataW.trod enc P w base spare held n e c=some y→ ∃q:α,c=f q∧ok q)
 {r:Reach}{b0:Nat}{v:Value}{d:DataW H}{p:List MemPlace}(hv:Value.okWide P w r b0 t v)(h:DataW.Trod enc P w base spare held t v d p):
  ∃(a:Option Addr) (n c:Nat) (L:List α),v= .slice a n c∧L.length=n∧(∀y∈L,ok y)∧Rd w a n (fl f L)∧n≤c∧c≤maxLen:=by
 obtain⟨a,n,c,rfl⟩:=okWide_slice ht hv
 obtain⟨fuel,hf⟩:=h
 rcases open_slice ht hf with ⟨h0,_⟩|⟨a',len,cap,m,n',D,Pl,hcs,hb,hl,hm,hmm,_,hi⟩
 · simp only[Value.cells,List.cons.injEq,Value.slice.injEq,and_true] at h0
   obtain⟨rfl,rfl,rfl⟩:=h0
   exact⟨_,_,_,[],rfl,rfl,fun _ h=>(by cases h),.inl ⟨rfl,rfl⟩,Nat.le_refl _,Nat.zero_le _⟩
 · simp only[Value.cells,List.cons.injEq,Value.slice.injEq,and_true] at hcs
   obtain⟨rfl,rfl,rfl⟩:=hcs
   have hlm:n≤m:=by rw[hmm];split<;>omega
   obtain⟨L,h1,h2,h3⟩:=rd_list (w:=w) E (ok:=ok) a' n (fun i hin=>by
    obtain⟨cs',hc,hr⟩:=hi i om
    obtain⟨q,rfl,hq⟩:=hQ hr
    obtain⟨_,_,hc2⟩:=World.cells?_some hc
    refine⟨q,hq,fun j hj=> ?_⟩
    rw[←Go.Deep.add_add,←hC]
    exact hc2 j (by rw[hC];exact hj))
   refine⟨_,_,_,L,rfl,h1,h2,?_,hl,hm⟩
   cases hL:L with
   |nil=>rw[hL] at h1;exact .inl ⟨h1.symm,rfl⟩
   |cons y L'=>
    obtain⟨b,off,spot⟩:=a'
    have h4:(f y)[0]? =some ((f y)[0]'(by rw[E.len];exact hz)):=List.getElem?_eq_getElem _
    have h5:=h3 0 _ (by rw[hL,fl,List.getElem?_append_left (by rw[E.len];exact hz)];exact h4)
    have h6:spot=none:=by simpa [Addr.add] using World.cell?_spot h5
    subst h6
    refine .inr ⟨b,off,rfl,fun k v hk=> ?_⟩
    rw[←add_off]
    exact h3 k v (by rw[hL];exact hk)
end
end Go.Proofs.YtehlamblpekmkaaGreatDoor
