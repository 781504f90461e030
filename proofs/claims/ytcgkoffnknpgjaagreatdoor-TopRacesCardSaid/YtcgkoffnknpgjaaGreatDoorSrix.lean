/-
  Rows of integers, sorted by a comparison that lQ: the shelf's RU as mine. No program in sight.
-/
import Derived.Test.YtcgkoffnknpgjaaGreatDoorExax
import Derived.Test.YtcgkoffnknpgjaaGreatDoorStrx
import Derived.Shelf.SlSortCmp.Whole1
import Derived.Sort.LotA
import Derived.Lib.RowBridge
import Derived.Laws.Cover1
namespace Go.Proofs.YtcgkoffnknpgjaaGreatDoor
set_option linter.unusedVariables false
set_option linter.unusedSimpArgs false
open Go.Shelf Go.RowKit Go.Lib Go.Sort
theorem NV{α:Type}[Inhabited α](f:α→Value)(d:Array α)(cur:Array Value)(h:d.size≤cur.size):putCells f 0 d cur=(d.toList.map f++cur.toList.drop d.size).toArray:=by
 apply Array.ext
 · simp[putCells]
   omega
 · intro i h1 h2
   simp only[putCells,Array.getElem_mapIdx,List.getElem_toArray,Nat.zero_le,true_and,Nat.zero_add,Nat.sub_zero]
   by_cases hi:i<d.size
   · rw[if_pos hi,List.getElem_append_left (by simpa using hi),getElem!_pos d i hi,List.getElem_map,Array.getElem_toList]
   · rw[if_neg hi,List.getElem_append_right (by rw[List.length_map,Array.length_toList];omega),List.getElem_drop,Array.getElem_toList]
     congr 1
     rw[List.length_map,Array.length_toList]
     omega
def NW(x:Int):Value:= .int .i64 x
theorem Jg(l:List Int):l.map NW=fl eI l:=by
 induction l with
 |nil=>rfl
 |cons b l ih=>rw[List.map_cons,ih];rfl
section
variable {P : Program} {ρ : Ren} {g w : World} {F : List AB} {p : Option Addr} {m c T : Nat} {L : List Int}
theorem mO(hs:sat g w (Sl T 1 p m c (fl eI L)::F)){b:Nat}{cur:List Value}(hb:w.heap[b]? =some (.cells cur.toArray T (0,0)))(e3:cur.take (m*1)=fl eI L):Holds NW w b 0 L.toArray:=by
 intro j hj
 have hj2:j<L.length:=by simpa using hj
 refine⟨?_,frozen_of_row w b _ cur.toArray _ hb⟩
 have h1:(fl eI L)[j]? =some (NW L[j]):=by rw[←Jg,List.getElem?_map,List.getElem?_eq_getElem hj2];rfl
 have hl:(fl eI L).length=m*1:=ND hs
 have hj3:j<m*1:=by rw[←hl,Dg Co];omega
 rw[Nat.zero_add,cell_of_row w b j cur.toArray _ (0,0) hb,List.getElem?_toArray,cB e3 hj3,h1,getElem!_pos _ j hj]
 rfl
theorem Xk{b:Nat}{cur:List Value}{M:List Int}{m':Nat}(e4:sat g w (pt b (.cells cur.toArray T (0,0))::F))(hb:w.heap[b]? =some (.cells cur.toArray T (0,0)))(hm:m'≤M.length)(hM:M.length≤cur.length)(hc:c*1=cur.length)(h63:c≤maxLen)(k:Nat):
  sat g (putRow NW (Sort.ahead w k) b 0 M.toArray) (Sl T 1 (some ⟨b,0,none⟩) m' c (fl eI (M.take m'))::F):=by
 have hput:(putRow NW (Sort.ahead w k) b 0 M.toArray).heap[b]? =some (.cells (fl eI M++cur.drop M.length).toArray T (0,0)):=by
  show (w.heap.modify b _)[b]? =_
  rw[Array.getElem?_modify,if_pos rfl,hb]
  show some (Obj.cells (putCells NW 0 M.toArray cur.toArray) T (0,0))=_
  rw[NV _ _ _ (by simpa using hM),←Jg]
  simp
 have hl:(fl eI (M.take m')).length=m'*1:=by rw[Dg Co,List.length_take];omega
 refine PJ (cur:=fl eI M++cur.drop M.length) (B0 (b:=b) (w:=w) e4 ⟨rfl,rfl,rfl,Nat.le_add_right _ _⟩ hput (fun j hj=> ?_)) hl om h63 ?_ ?_
 · show (w.heap.modify b _)[j]? =_
   rw[Array.getElem?_modify,if_neg (fun h=>hj h.symm)]
 · rw[List.length_append,Dg Co,List.length_drop]
   omega
 · rw[Nat.mul_one,List.take_append_of_le_length (by rw[Dg Co];omega),←Jg,←Jg,List.map_take]
theorem VR(Ly:SlLaysF.n6 P ρ)(cf:Int→Int→Int)(hO:SWO (ltOf cf))(gc:Nat)(cb:List Value)(eg: ∀args w,(callFunc gc args).run P w= .ok (.enter gc args) w)(hs:sat g w (Sl T 1 p m c (fl eI L)::F))(hm:0<m)(hm2:m<4611686018427387904)
 (hc: ∀(b:Nat) (W:World),p=some ⟨b,0,none⟩→(∀j,j≠b→j<w.heap.size→W.heap[j]? =w.heap[j]?)→ ∀x y:Int,Calls P gc (#[.int .i64 x,.int .i64 y]++cb.toArray) W fun e w'=>e= .returned (.int .i64 (cf x y))∧ ∃q os,w'=grow (W.drewN q) os):
  Calls P (ρ.f 6) #[.slice p m c,.func (.func gc) #[] cb.toArray] w fun e w'=>e= .returned (.tuple #[])∧ ∃M:List Int,M.Perm L∧(M.Pairwise fun a b=>ltOf cf b a=false)∧sat g w' (Sl T 1 p m c (fl eI M)::F):=by
 have hlen:L.length=m:=Ca Co dc hs
 have hle:=BH hs
 obtain⟨b,cur,rfl,e2,e3,e4⟩:=NE hs hm
 have hb:w.heap[b]? =some (.cells cur.toArray T (0,0)):=Ax (i:=0) e4 rfl
 have hds:L.toArray.size=m:=by rw[List.size_toArray,hlen]
 have hcmp:CmpLays1 P gc cb.toArray NW cf b 0 L.toArray.size w:=fun q os dk hdk x y=>by
  refine hc b _ rfl (fun j hj hjl=> ?_) x y
  show ((w.heap.modify b _)++os)[j]? =_
  rw[Array.getElem?_append_left (by rw[Array.size_modify];exact hjl),Array.getElem?_modify,if_neg (fun h=>hj h.symm)]
 have hcon:=Any.slices_SortFunc Ly NW (fun _=>rfl) cf hO gc cb.toArray b 0 c L.toArray w eg hcmp (mO hs hb e3) (Array.getElem?_eq_some_iff.1 hb).1 om
 rw[hds] at hcon
 refine(show Calls P (ρ.f 6) #[.slice (some ⟨b,0,none⟩) m c,.func (.func gc) #[] cb.toArray] w _ from hcon).mono ?_
 rintro e w' ⟨rfl,d',n,os,hp,hso,rfl⟩
 have hd's:d'.size=m:=hp.1.trans hds
 have hperm:d'.toList.Perm L:=by
  have h1:=hp.2.2
  have e1: ∀x:Array Int,x.size=m→(x.extract 0 m).toList=x.toList:=by
   intro x hx
   simp[←hx]
  rw[e1 d' hd's,e1 L.toArray hds] at h1
  exact h1
 refine⟨rfl,d'.toList,hperm,?_,?_⟩
 · rw[List.pairwise_iff_getElem]
   intro i j hi hj hij
   rw[Array.length_toList] at hi hj
   have h1:=hso i j (Nat.zero_le _) hij om
   rw[getElem!_pos d' j hj,getElem!_pos d' i hi] at h1
   rw[Array.getElem_toList,Array.getElem_toList]
   exact h1
 · have hq:=Xk (M:=d'.toList) (m':=m) e4 hb (by rw[Array.length_toList];omega) (by rw[Array.length_toList];omega) om hle.2 n
   rw[List.take_of_length_le (by rw[Array.length_toList];omega)] at hq
   exact mN (w:=putRow NW (Sort.ahead w n) b 0 d') hq os
end
end Go.Proofs.YtcgkoffnknpgjaaGreatDoor
