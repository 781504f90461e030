/-
  Calls that leave all that was there alone, exactly. No program in sight.
-/
import Derived.Test.YtcgkoffnknpgjaaGreatDoorLstx
import Derived.Shelf.SlSortCmp.Kit1
namespace Go.Proofs.YtcgkoffnknpgjaaGreatDoor
set_option linter.unusedVariables false
set_option linter.unusedSimpArgs false
open Go.Shelf Go.RowKit Go.Lib Go.Sort
theorem Xj{P:Program}{f:FuncId}{args:List Value}{W:World}{v0:Value}(hT:HT P f args [I5 W] fun v K=>v=v0∧K= [I5 W]):Calls P f args.toArray W fun e w'=>e= .returned v0∧ ∃q os,w'=grow (W.drewN q) os:=by
 refine(hT W W [] (L9 W)).mono ?_
 rintro e w' ⟨v,K,rfl,⟨rfl,rfl⟩,h2⟩
 have hb:=MA (i:=0) h2 rfl
 have hd:W.drawn≤w'.drawn:=h2.1.drawn
 refine⟨rfl,w'.drawn-W.drawn,w'.heap.extract W.heap.size w'.heap.size,?_⟩
 have hsz:W.heap.size≤w'.heap.size:=hb.size
 have hh:w'.heap=W.heap++w'.heap.extract W.heap.size w'.heap.size:=by
  apply Array.ext_getElem?
  intro i
  rcases Nat.lt_or_ge i W.heap.size with hi|hi
  · rw[Array.getElem?_append_left hi]
    exact hb.block i hi
  · rw[Array.getElem?_append_right hi,Array.getElem?_extract]
    split
    · congr 1
      omega
    · rw[Array.getElem?_eq_none]
      omega
 have e1:grow (W.drewN (w'.drawn-W.drawn)) (w'.heap.extract W.heap.size w'.heap.size)= {heap:=W.heap++w'.heap.extract W.heap.size w'.heap.size,tape:=W.tape,drawn:=W.drawn+(w'.drawn-W.drawn),os:=W.os,output:=W.output}:=rfl
 rw[e1,←hh,show W.drawn+(w'.drawn-W.drawn)=w'.drawn by omega,←hb.tape,←hb.os,←hb.output]
theorem mN{g w:World}{L:List AB}(h:sat g w L)(os:Array Obj):sat g (grow w os) L:=by
 obtain⟨s,Z,hZ,ok,pw⟩:=h
 refine⟨⟨s.os,s.tape,s.output,s.drawn⟩,Z,hZ,fun z hz=>⟨(ok z hz).1,fun b o hb=> ?_⟩,pw⟩
 have h1:=(ok z hz).2 b o hb
 show (w.heap++os)[b]? =some o
 rw[Array.getElem?_append_left (Array.getElem?_eq_some_iff.1 h1).1]
 exact h1
theorem Pd{g w W:World}{L:List AB}{a:Nat}{o:Obj}{A:AB}{j:Nat}(h:sat g w (pt a o::L))(hj:L[j]? =some A)(hW: ∀i,i≠a→i<w.heap.size→W.heap[i]? =w.heap[i]?): ∃k,A k∧kD k W:=by
 obtain⟨_,Z,hZ,ok,pw⟩:=h
 match Z,hZ with
 |z::Z,hZ=>
  simp only[List.map_cons,List.cons.injEq] at hZ
  obtain⟨hz1,hZ⟩:=hZ
  have hz:=(ok z (by simp)).1
  rw[hz1] at hz
  rw[List.pairwise_cons] at pw
  rw[←hZ,List.getElem?_map,Option.map_eq_some_iff] at hj
  obtain⟨y,hy,hyA⟩:=hj
  have hym:=List.mem_of_getElem? hy
  have h1:=ok y (by simp[hym])
  refine⟨y.2,hyA▸h1.1,fun b q hb=> ?_⟩
  have h2:=h1.2 b q hb
  have hne:b≠a:=by
   intro e
   subst e
   rcases pw.1 y hym b with h3|h3
   · have h4:z.2 b=some o:=hz
     rw[h3] at h4
     cases h4
   · rw[h3] at hb
     cases hb
  rw[hW b hne (Array.getElem?_eq_some_iff.1 h2).1]
  exact h2
theorem dC{g w W:World}{L:List AB}{a:Nat}{o:Obj}{A:AB}{j:Nat}(h:sat g w (pt a o::L))(hj:L[j]? =some A)(hW: ∀i,i≠a→i<w.heap.size→W.heap[i]? =w.heap[i]?){p:Option Addr}{n:Nat}{cs:List Value}(hg:Gv A p n cs):Rd W p n cs:=by
 obtain⟨k,h1,h2⟩:=Pd h hj hW
 rcases hg k h1 with h3|⟨b,off,h3,h4⟩
 · exact .inl h3
 · exact .inr ⟨b,off,h3,fun q v hq=>h4 W h2 q v hq⟩
theorem NU{g w W:World}{L:List AB}{a:Nat}{o:Obj}{b ty:Nat}{cs:List Value}{j:Nat}(h:sat g w (pt a o::L))(hj:L[j]? =some (Cl b cs ty))(hW: ∀i,i≠a→i<w.heap.size→W.heap[i]? =w.heap[i]?):W.heap[b]? =some (.cells cs.toArray ty (0,0)):=by
 obtain⟨k,h1,h2⟩:=Pd h hj hW
 exact h2 b _ h1
end Go.Proofs.YtcgkoffnknpgjaaGreatDoor
