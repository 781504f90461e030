/- The given card of BatchPlays holds. No condition. -/
import Derived.Test.YtehlamblpekmkaaGreatDoorRows
import Derived.Test.YtehlamblpekmkaaGreatDoorCards
import Derived.Test.YtehlamblpekmkaaGreatDoorTie
import Derived.Deep.DeepHandedRow
import Derived.Lib.LaidTab
import Derived.WalkKit
import Derived.ProofKit
import Derived.OpenShut
import Derived.ChangeOld
import Derived.Below
import Derived.Carry
import Derived.Test.YtehlamblpekmkaaGreatDoorRowPa
namespace Go.Proofs.YtehlamblpekmkaaGreatDoor
open Go.ChangeShapes Go.WideShapes Go.ChangeAt Go.RowKit
namespace batchPlaysRow
theorem kk0:(Rows.batchPlaysRow.inPlace==Tryz.pinned.checked.prog.inPlace 8)=true:=by kernel_rfl
theorem kk1:(Rows.batchPlaysRow.unfollowed==Tryz.pinned.checked.prog.unfollowed 8)=true:=by kernel_rfl
theorem kk2:(Rows.batchPlaysRow.recurses==Tryz.pinned.checked.prog.recurses 8)=true:=by kernel_rfl
theorem kk3:(Rows.batchPlaysRow.named==Tryz.pinned.checked.prog.varsNamed 8)=true:=by kernel_rfl
theorem closed:joinedFacts Tryz.pinned.checked.prog 8 Tryz.f8 (OpenSpec.ofChange Rows.batchPlaysSpec).bare Rows.batchPlaysRow=true:=by
 unfold joinedFacts
 rw[kk0,kk1,kk2,kk3]
 kernel_rfl
theorem said:Rows.BatchPlaysSaid:=
 OpenClaim.holds_of_cond 8 Tryz.f8 rfl rfl rfl rfl rfl rfl rfl ⟨rfl,rfl,rfl,rfl,rfl⟩ rfl rfl rfl rfl rfl kr Tryz.func8 closed
  (of_decide_eq_true kr) (by unfold Func.isWrapper;first|(rw[if_pos (by decide+kernel)];kernel_rfl)|(rw[if_neg (by decide+kernel)];exact⟨rfl,rfl⟩))
  (fun os started H enc _ F=>by rw[OpenClaim.pre_eq_preRow];exact lifted os started H enc F)
theorem plain(f:FuncId)(fn:Func)(hf:Tryz.pinned.checked.prog.funcNamed "estray/estraylaw34.BatchPlays" =some f)(hfn:Tryz.pinned.checked.prog.funcs[f]? =some fn):
  true=Tryz.pinned.checked.prog.looks []∧ ∀(j:Nat) t,fn.params[j]? =some t→Tryz.pinned.checked.prog.wantsStandIn t=false:=by
 obtain rfl:f=8:=Option.some.inj ((show Tryz.prog.funcNamed "estray/estraylaw34.BatchPlays" =some 8 by kernel_rfl).symm.trans hf)|>.symm
 obtain rfl:fn=Tryz.f8:=(Option.some.inj (Tryz.func8.symm.trans hfn)).symm
 refine⟨by kernel_rfl,fun j t ht=> ?_⟩
 rw[Tryz.params8] at ht
 have hm:t=60∨t=24∨t=2∨t=3:=by simpa using Array.mem_of_getElem? ht
 rcases hm with rfl |rfl |rfl |rfl
 · exact(show Tryz.prog.wantsStandIn 60=false by kernel_rfl)
 · exact(show Tryz.prog.wantsStandIn 24=false by kernel_rfl)
 · exact(show Tryz.prog.wantsStandIn 2=false by kernel_rfl)
 · exact(show Tryz.prog.wantsStandIn 3=false by kernel_rfl)
theorem card:Rows.BatchPlaysCardSaid:=
 Claim7.holds_tied_plain_at .later [] _ _ _ _ said (fun _ h=>by cases h) kr (fun _ h=>by cases h) batchPlays_row_tie rfl ⟨rfl,rfl⟩ kr rfl plain kr
end batchPlaysRow
theorem batchPlays_holds:Rows.BatchPlaysCardSaid:=batchPlaysRow.card
#print axioms batchPlays_holds
end Go.Proofs.YtehlamblpekmkaaGreatDoor
