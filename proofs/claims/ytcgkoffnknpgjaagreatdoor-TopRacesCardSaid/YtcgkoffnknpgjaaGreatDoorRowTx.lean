/- The given card of TopRaces holds. No condition. -/
import Derived.Test.YtcgkoffnknpgjaaGreatDoorRows
import Derived.Test.YtcgkoffnknpgjaaGreatDoorCards
import Derived.Test.YtcgkoffnknpgjaaGreatDoorTie
import Derived.Deep.DeepHandedRow
import Derived.Lib.LaidTab
import Derived.WalkKit
import Derived.ProofKit
import Derived.OpenShut
import Derived.ChangeOld
import Derived.Below
import Derived.Carry
import Derived.Test.YtcgkoffnknpgjaaGreatDoorRowx
import Derived.Test.YtcgkoffnknpgjaaGreatDoorBundle43x
import Derived.Test.YtcgkoffnknpgjaaGreatDoorCl4x
namespace Go.Proofs.YtcgkoffnknpgjaaGreatDoor
set_option linter.unusedVariables false
set_option linter.unusedSimpArgs false
open Go.ChangeShapes Go.WideShapes Go.ChangeAt Go.RowKit
theorem O3{H:Type}{enc:TypeId×Value→H}{w:World}{base:Nat}{spare:Nat→Bool}{held:Bool}{fuel:Nat}{cs:List Value}{x:DataW H×List MemPlace}(h:DataW.trod enc Tryz.prog w base spare held fuel 5 cs=some x):
  ∃(a0:Int),cs= [.int .u8 a0]∧(0≤a0∧a0≤255):=by
 obtain⟨z,h1,h2,h3⟩:=lZ Tryz.underlying5 h
 exact⟨z,h1,(by simpa [IntKind.min,IntKind.max,IntKind.signed,IntKind.bits] using h2),(by simpa [IntKind.min,IntKind.max,IntKind.signed,IntKind.bits] using h3)⟩
theorem xG{H:Type}{enc:TypeId×Value→H}{w:World}{base:Nat}{spare:Nat→Bool}{held:Bool}{fuel:Nat}{cs:List Value}{x:DataW H×List MemPlace}(h:DataW.trod enc Tryz.prog w base spare held fuel 23 cs=some x):
  ∃(a0:Int) (a1:Int) (a2:Int) (a3:Int) (a4:Int) (a5:Int) (a6:Int) (a7:Int),cs= [.int .u8 a0,.int .u8 a1,.int .u8 a2,.int .u8 a3,.int .u8 a4,.int .u8 a5,.int .u8 a6,.int .u8 a7]∧(0≤a0∧a0≤255)∧(0≤a1∧a1≤255)∧(0≤a2∧a2≤255)∧(0≤a3∧a3≤255)∧(0≤a4∧a4≤255)∧(0≤a5∧a5≤255)∧(0≤a6∧a6≤255)∧(0≤a7∧a7≤255):=by
 have hl:cs.length=8:=(PM Tryz.underlying23 h).1.trans kr
 match cs,hl,h with
 | [c0,c1,c2,c3,c4,c5,c6,c7],_,h=>
  obtain⟨y0,n0,h0⟩:=Du Tryz.underlying23 h 0 _ rfl 1 kr
  obtain⟨a0,e0,p0_0⟩:=O3 h0
  have e0: [c0]= [.int .u8 a0]:=e0
  simp only[List.cons.injEq,and_true] at e0
  obtain rfl:=e0
  obtain⟨y1,n1,h1⟩:=Du Tryz.underlying23 h 1 _ rfl 1 kr
  obtain⟨a1,e1,p1_0⟩:=O3 h1
  have e1: [c1]= [.int .u8 a1]:=e1
  simp only[List.cons.injEq,and_true] at e1
  obtain rfl:=e1
  obtain⟨y2,n2,h2⟩:=Du Tryz.underlying23 h 2 _ rfl 1 kr
  obtain⟨a2,e2,p2_0⟩:=O3 h2
  have e2: [c2]= [.int .u8 a2]:=e2
  simp only[List.cons.injEq,and_true] at e2
  obtain rfl:=e2
  obtain⟨y3,n3,h3⟩:=Du Tryz.underlying23 h 3 _ rfl 1 kr
  obtain⟨a3,e3,p3_0⟩:=O3 h3
  have e3: [c3]= [.int .u8 a3]:=e3
  simp only[List.cons.injEq,and_true] at e3
  obtain rfl:=e3
  obtain⟨y4,n4,h4⟩:=Du Tryz.underlying23 h 4 _ rfl 1 kr
  obtain⟨a4,e4,p4_0⟩:=O3 h4
  have e4: [c4]= [.int .u8 a4]:=e4
  simp only[List.cons.injEq,and_true] at e4
  obtain rfl:=e4
  obtain⟨y5,n5,h5⟩:=Du Tryz.underlying23 h 5 _ rfl 1 kr
  obtain⟨a5,e5,p5_0⟩:=O3 h5
  have e5: [c5]= [.int .u8 a5]:=e5
  simp only[List.cons.injEq,and_true] at e5
  obtain rfl:=e5
  obtain⟨y6,n6,h6⟩:=Du Tryz.underlying23 h 6 _ rfl 1 kr
  obtain⟨a6,e6,p6_0⟩:=O3 h6
  have e6: [c6]= [.int .u8 a6]:=e6
  simp only[List.cons.injEq,and_true] at e6
  obtain rfl:=e6
  obtain⟨y7,n7,h7⟩:=Du Tryz.underlying23 h 7 _ rfl 1 kr
  obtain⟨a7,e7,p7_0⟩:=O3 h7
  have e7: [c7]= [.int .u8 a7]:=e7
  simp only[List.cons.injEq,and_true] at e7
  obtain rfl:=e7
  exact⟨a0,a1,a2,a3,a4,a5,a6,a7,rfl,p0_0,p1_0,p2_0,p3_0,p4_0,p5_0,p6_0,p7_0⟩
theorem AaT{H:Type}{enc:TypeId×Value→H}{w:World}{base:Nat}{spare:Nat→Bool}{held:Bool}{fuel:Nat}{cs:List Value}{x:DataW H×List MemPlace}(h:DataW.trod enc Tryz.prog w base spare held fuel 4 cs=some x):
  ∃(a0:Bool),cs= [.bool a0]:=by
 exact cE Tryz.underlying4 h
namespace topRacesRow
theorem own:ownKnob Tryz.prog.godebug=none:=by kernel_rfl
theorem O4:laidOutB Tryz.prog=true:=by kernel_rfl
theorem AaU:Tryz.prog.globalNamed "estray/answer.letters" =some 0:=by kernel_rfl
theorem xH:(Tryz.prog.globals[0]?).map (·.type)=some 404:=by kernel_rfl
theorem Aad:Tryz.prog.cellsOf 404=4:=by kernel_rfl
theorem Aae:Tryz.prog.cellsOf 5=1:=by kernel_rfl
set_option maxRecDepth 100000 in
set_option maxHeartbeats 4000000 in
theorem RU(H:Type)(enc:TypeId×Value→H)(W:World)(base:Nat)(args:Array Value)(ds gs:List (DataW H))(before:List MemPlace)
 (hval0: ∀(j:Nat) t v,Tryz.f4.params[j]? =some t→args[j]? =some v→Value.okWide Tryz.prog W .any base t v)
 (hW:DataW.Whole enc Tryz.prog Tryz.f4.params.toList Rows.topRacesSpec.vars false W args.toList ds gs before)(hL:laidMetH Tryz.prog Rows.topRacesRow.laid W):
  Calls Tryz.prog 4 args W fun e W'=> ∃v,e= .returned v∧Rows.topRacesSpec.post enc Tryz.prog Tryz.f4 false true false false W args v W':=by
 have hval: ∀(j:Nat) t v,Tryz.f4.params[j]? =some t→args[j]? =some v→Value.okWide Tryz.prog W .any base t v:=hval0
 have hW':=hW
 obtain⟨p,q,hA0,hV,rfl,hfz,hnd⟩:=hW
 have hA:DataW.TrodAll enc Tryz.prog W 0 (fun _=>true) true Tryz.f4.params.toList args.toList ds p:=hA0
 rw[Tryz.params4] at hA hval
 obtain⟨v0,vs0,d0,ds0,p0,q0,hargs,rfl,rfl,h0,r0⟩:=trodAll_cons hA
 obtain⟨v1,vs1,d1,ds1,p1,q1,rfl,rfl,rfl,h1,r1⟩:=trodAll_cons r0
 obtain⟨v2,vs2,d2,ds2,p2,q2,rfl,rfl,rfl,h2,r2⟩:=trodAll_cons r1
 obtain⟨rfl,rfl,rfl⟩:=trodAll_nil r2
 obtain rfl:args= #[v0,v1,v2]:=by cases args;simp_all
 obtain⟨rfl,rfl⟩:=trodVars_none hV
 have k0:=h0
 have lt0: ∀x∈p0,x.block<W.heap.size:=by obtain⟨m,hm⟩:=k0;exact DataW.trod_lt m _ _ _ hm
 obtain⟨cv0,rfl,hsz0⟩:=okWide_struct Tryz.underlying23 (hval 0 23 _ rfl rfl)
 obtain⟨fu0,hf0⟩:=h0
 obtain⟨a0_0,a0_1,a0_2,a0_3,a0_4,a0_5,a0_6,a0_7,e0,g0_0,g0_1,g0_2,g0_3,g0_4,g0_5,g0_6,g0_7⟩:=xG hf0
 obtain rfl:cv0= #[.int .u8 a0_0,.int .u8 a0_1,.int .u8 a0_2,.int .u8 a0_3,.int .u8 a0_4,.int .u8 a0_5,.int .u8 a0_6,.int .u8 a0_7]:=by cases cv0;simpa [Value.cells] using e0
 have k1:=h1
 have lt1: ∀x∈p1,x.block<W.heap.size:=by obtain⟨m,hm⟩:=k1;exact DataW.trod_lt m _ _ _ hm
 obtain⟨a1,rfl⟩:=okWide_int Tryz.underlying5 (hval 1 5 _ rfl rfl)
 obtain⟨fu1,hf1⟩:=h1
 obtain⟨z1,e1,g1⟩:=O3 hf1
 obtain rfl:a1=z1:=by simpa [Value.cells] using e1
 have k2:=h2
 have lt2: ∀x∈p2,x.block<W.heap.size:=by obtain⟨m,hm⟩:=k2;exact DataW.trod_lt m _ _ _ hm
 obtain⟨a2,rfl⟩:=okWide_bool Tryz.underlying4 (hval 2 4 _ rfl rfl)
 refine(bM a0_0 a0_1 a0_2 a0_3 a0_4 a0_5 a0_6 a0_7 a1 a2 om om om om om om om om om om om om om om om om om om W W [I5 W] (L9 W)).mono fun e W' ⟨v,K,he,⟨hv,hK⟩,hs⟩=> ?_
 subst hv;subst hK;subst he
 have bel:Below W.heap.size W W':=MA (i:=0) hs rfl
 exact⟨_,rfl,_,_,_,[],_,[],hW',trodAll_mk1 (shut_bool Tryz.underlying4 _),(trodAll_cons_mk (Below.trod O4 kr (of_decide_eq_true kr) k0 bel lt0) (trodAll_cons_mk (Below.trod O4 kr (of_decide_eq_true kr) k1 bel lt1) (trodAll_cons_mk (Below.trod O4 kr (of_decide_eq_true kr) k2 bel lt2) trodAll_mk0))),rfl,bel.frame _,fun h=>by cases h⟩
noncomputable def I4(os:Os):World:=
 {World.holding Tryz.prog os ⟨#[],#[],[]⟩ with heap:=(World.holding Tryz.prog os ⟨#[],#[],[]⟩).heap.modify 0 fun
  | .cells _ t frozen=> .cells #[.int .u8 0,.int .u8 111,.int .u8 108,.int .u8 102] t frozen
  |o=>o}
theorem bO(os:Os):laidMet Tryz.prog Rows.topRacesRow.laid ((I4 os).forCall (fun _ _=>0) ⟨#[],#[.agg #[.int .u8 0,.int .u8 0,.int .u8 0,.int .u8 0,.int .u8 0,.int .u8 0,.int .u8 0,.int .u8 0],.int .u8 0,.bool false],[]⟩).memory:=
 laidMet_of_run' 8 kr kr
theorem lQ(os:Os){H:Type}(enc:TypeId×Value→H): ∃places,DataW.whole enc Tryz.prog ((I4 os).forCall (fun _ _=>0) ⟨#[],#[.agg #[.int .u8 0,.int .u8 0,.int .u8 0,.int .u8 0,.int .u8 0,.int .u8 0,.int .u8 0,.int .u8 0],.int .u8 0,.bool false],[]⟩).memory Tryz.f4.params.toList Rows.topRacesSpec.vars false (#[.agg #[.int .u8 0,.int .u8 0,.int .u8 0,.int .u8 0,.int .u8 0,.int .u8 0,.int .u8 0,.int .u8 0],.int .u8 0,.bool false]:Array Value).toList 8=some ([.agg [.lit (.int .u8 0),.lit (.int .u8 0),.lit (.int .u8 0),.lit (.int .u8 0),.lit (.int .u8 0),.lit (.int .u8 0),.lit (.int .u8 0),.lit (.int .u8 0)],.lit (.int .u8 0),.lit (.bool false)],[],places):=
 ⟨[],by kernel_rfl⟩
set_option maxRecDepth 100000 in
theorem rW(os:Os)(started:os.Started)(H:Type)(enc:TypeId×Value→H)(F:Stop.Interp):
  ReturnsInHanded {} Tryz.checked os 4 .any ((OpenSpec.ofChange Rows.topRacesSpec).preRow enc Tryz.prog Tryz.f4 Rows.topRacesRow.domain false Rows.topRacesRow.laid) (((OpenSpec.ofChange Rows.topRacesSpec).at F).post enc Tryz.prog Tryz.f4 false true false false):=by
 obtain⟨places,hx⟩:=lQ os enc
 refine returnsInHanded_of_row (C:=Tryz.checked) (s:=OpenSpec.ofChange Rows.topRacesSpec) own started kr Tryz.func4
  (witness_row_at (enc:=enc) (C:=Tryz.checked) false (I4 os) #[.agg #[.int .u8 0,.int .u8 0,.int .u8 0,.int .u8 0,.int .u8 0,.int .u8 0,.int .u8 0,.int .u8 0],.int .u8 0,.bool false] rfl kr kr kr
   (OpenSpec.preRow_of_cond 8 hx kr (fun k hk=>by cases hk) kr (bO os))) ?_
 intro W base args ds gs before hval hW _ _ _ hL _ _
 exact RU H enc W base args ds gs before hval hW hL
theorem kk0:(Rows.topRacesRow.inPlace==Tryz.pinned.checked.prog.inPlace 4)=true:=by
 rw[show Tryz.pinned.checked.prog.inPlace 4=_ from zZ]
 rfl
theorem kk1:(Rows.topRacesRow.unfollowed==Tryz.pinned.checked.prog.unfollowed 4)=true:=by
 rw[show Tryz.pinned.checked.prog.unfollowed 4=_ from xE]
 rfl
theorem kk2:(Rows.topRacesRow.recurses==Tryz.pinned.checked.prog.recurses 4)=true:=by
 rw[show Tryz.pinned.checked.prog.recurses 4=_ from Aaa]
 rfl
theorem kk3:(Rows.topRacesRow.named==Tryz.pinned.checked.prog.varsNamed 4)=true:=by
 rw[show Tryz.pinned.checked.prog.varsNamed 4=_ from Aab]
 rfl
theorem bP:joinedFacts Tryz.pinned.checked.prog 4 Tryz.f4 (OpenSpec.ofChange Rows.topRacesSpec).bare Rows.topRacesRow=true:=by
 unfold joinedFacts
 rw[kk0,kk1,kk2,kk3]
 kernel_rfl
theorem xI:false=Rows.topRacesRow.goesBy Tryz.pinned.checked.prog:=by
 have h1:Tryz.pinned.checked.prog.funcNamed "estray/estraytop.TopRaces" =some 4:=by kernel_rfl
 unfold OpenClaim.goesBy Program.goesAt Program.goesFrom
 rw[show Rows.topRacesRow.func= "estray/estraytop.TopRaces" from rfl,h1,Option.any_some,show Tryz.pinned.checked.prog.goes 4=false from xF]
 rfl
theorem xJ:Rows.TopRacesSaid:=
 OpenClaim.holds_of_cond 4 Tryz.f4 rfl rfl rfl rfl rfl rfl rfl ⟨rfl,rfl,rfl,rfl,rfl⟩ rfl rfl rfl rfl rfl kr Tryz.func4 bP
  (of_decide_eq_true kr) (by unfold Func.isWrapper;first|(rw[if_pos (by decide+kernel)];kernel_rfl)|(rw[if_neg (by decide+kernel)];exact⟨rfl,rfl⟩))
  (fun os started H enc _ F=>by rw[OpenClaim.pre_eq_preRow];exact rW os started H enc F)
theorem lR(f:FuncId)(fn:Func)(hf:Tryz.pinned.checked.prog.funcNamed "estray/estraytop.TopRaces" =some f)(hfn:Tryz.pinned.checked.prog.funcs[f]? =some fn):
  true=Tryz.pinned.checked.prog.looks []∧ ∀(j:Nat) t,fn.params[j]? =some t→Tryz.pinned.checked.prog.wantsStandIn t=false:=by
 obtain rfl:f=4:=Option.some.inj ((show Tryz.prog.funcNamed "estray/estraytop.TopRaces" =some 4 by kernel_rfl).symm.trans hf)|>.symm
 obtain rfl:fn=Tryz.f4:=(Option.some.inj (Tryz.func4.symm.trans hfn)).symm
 refine⟨by kernel_rfl,fun j t ht=> ?_⟩
 rw[Tryz.params4] at ht
 have hm:t=23∨t=5∨t=4:=by simpa using Array.mem_of_getElem? ht
 rcases hm with rfl |rfl |rfl
 · exact(show Tryz.prog.wantsStandIn 23=false by kernel_rfl)
 · exact(show Tryz.prog.wantsStandIn 5=false by kernel_rfl)
 · exact(show Tryz.prog.wantsStandIn 4=false by kernel_rfl)
theorem card:Rows.TopRacesCardSaid:=
 Claim7.holds_tied_plain_at .later [] _ _ _ _ xJ (fun _ h=>by cases h) kr (fun _ h=>by cases h) topRaces_row_tie rfl ⟨rfl,rfl⟩ kr rfl lR xI
end topRacesRow
theorem topRaces_holds:Rows.TopRacesCardSaid:=topRacesRow.card
#print axioms topRaces_holds
end Go.Proofs.YtcgkoffnknpgjaaGreatDoor
