/-
  Slices with a third bound; append where there is room; clear over a part of a row. The engine's laws for slices.Delete.
-/
import Derived.Test.YtehlamblpekmkaaGreatDoorCln
import Derived.Laws.AppendOwn
namespace Go.Proofs.YtehlamblpekmkaaGreatDoor
section
variable {P : Program} {Q : Exit → Act → World → Prop} {g w : World} {L : List Assn} {n : Nat} {l : Fr} {o : Oper} {N : Act → World → Prop} {ds : List Deferred}
end
theorem sl_trim{g w:World}{A:List Assn}{e sz:Nat}{p:Option Addr}{m k c:Nat}{cs:List Value}(h:sat g w (Sl e sz p m c cs::A))(hk:k≤m)(hm:0<m):sat g w (Sl e sz p k c (cs.take (k*sz))::A):=by
 have hle:=sl_le h
 have hlen:=sl_len h
 obtain⟨b,cur,rfl,e2,e3,e4⟩:=sl_open h hm
 have hkm:k*sz≤m*sz:=Nat.mul_le_mul_right _ hk
 have hge:m*sz≤cur.length:=by rw[e2];exact Nat.mul_le_mul_right _ hle.1
 refine sl_close e4 (by rw[List.length_take,hlen];omega) om hle.2 e2 ?_
 rw[←e3,List.take_take,Nat.min_eq_left hkm]
end Go.Proofs.YtehlamblpekmkaaGreatDoor
