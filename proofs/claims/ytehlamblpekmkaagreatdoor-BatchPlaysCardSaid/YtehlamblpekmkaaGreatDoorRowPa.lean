/- The row of the law: what the card needs. -/
import Derived.Test.YtehlamblpekmkaaGreatDoorRows
import Derived.Test.YtehlamblpekmkaaGreatDoorCards
import Derived.Test.YtehlamblpekmkaaGreatDoorTie
import Derived.Deep.DeepHandedRow
import Derived.Lib.LaidTab
import Derived.WalkKit
import Derived.ProofKit
import Derived.OpenShut
import Derived.ChangeOld
import Derived.Below
import Derived.Carry
import Derived.Test.YtehlamblpekmkaaGreatDoorRow
import Derived.Test.YtehlamblpekmkaaGreatDoorBundle49
import Derived.Test.YtehlamblpekmkaaGreatDoorLai
namespace Go.Proofs.YtehlamblpekmkaaGreatDoor
open Go.ChangeShapes Go.WideShapes Go.ChangeAt Go.RowKit
theorem rdT5{H:Type}{enc:TypeId×Value→H}{w:World}{base:Nat}{spare:Nat→Bool}{held:Bool}{fuel:Nat}{cs:List Value}{x:DataW H×List MemPlace}(h:DataW.trod enc Tryz.prog w base spare held fuel 5 cs=some x):
  ∃(a0:Int),cs= [.int .u8 a0]∧(0≤a0∧a0≤255):=by
 obtain⟨z,h1,h2,h3⟩:=rd_int Tryz.underlying5 h
 exact⟨z,h1,(by simpa [IntKind.min,IntKind.max,IntKind.signed,IntKind.bits] using h2),(by simpa [IntKind.min,IntKind.max,IntKind.signed,IntKind.bits] using h3)⟩
theorem rdT78{H:Type}{enc:TypeId×Value→H}{w:World}{base:Nat}{spare:Nat→Bool}{held:Bool}{fuel:Nat}{cs:List Value}{x:DataW H×List MemPlace}(h:DataW.trod enc Tryz.prog w base spare held fuel 78 cs=some x):
  ∃(a0:Int),cs= [.int .u16 a0]∧(0≤a0∧a0≤65535):=by
 obtain⟨z,h1,h2,h3⟩:=rd_int Tryz.underlying78 h
 exact⟨z,h1,(by simpa [IntKind.min,IntKind.max,IntKind.signed,IntKind.bits] using h2),(by simpa [IntKind.min,IntKind.max,IntKind.signed,IntKind.bits] using h3)⟩
theorem rdT90{H:Type}{enc:TypeId×Value→H}{w:World}{base:Nat}{spare:Nat→Bool}{held:Bool}{fuel:Nat}{cs:List Value}{x:DataW H×List MemPlace}(h:DataW.trod enc Tryz.prog w base spare held fuel 90 cs=some x):
  ∃(a0:Int) (a1:Int),cs= [.int .u8 a0,.int .u16 a1]∧(0≤a0∧a0≤255)∧(0≤a1∧a1≤65535):=by
 have hl:cs.length=2:=(rd_parts Tryz.underlying90 h).1.trans kr
 match cs,hl,h with
 | [c0,c1],_,h=>
  obtain⟨y0,n0,h0⟩:=rd_field Tryz.underlying90 h 0 _ rfl 1 kr
  obtain⟨a0,e0,p0_0⟩:=rdT5 h0
  have e0: [c0]= [.int .u8 a0]:=e0
  simp only[List.cons.injEq,and_true] at e0
  obtain rfl:=e0
  obtain⟨y1,n1,h1⟩:=rd_field Tryz.underlying90 h 1 _ rfl 1 kr
  obtain⟨a1,e1,p1_0⟩:=rdT78 h1
  have e1: [c1]= [.int .u16 a1]:=e1
  simp only[List.cons.injEq,and_true] at e1
  obtain rfl:=e1
  exact⟨a0,a1,rfl,p0_0,p1_0⟩
theorem rdT3{H:Type}{enc:TypeId×Value→H}{w:World}{base:Nat}{spare:Nat→Bool}{held:Bool}{fuel:Nat}{cs:List Value}{x:DataW H×List MemPlace}(h:DataW.trod enc Tryz.prog w base spare held fuel 3 cs=some x):
  ∃(a0:Int),cs= [.int .i64 a0]∧((-9223372036854775808)≤a0∧a0≤9223372036854775807):=by
 obtain⟨z,h1,h2,h3⟩:=rd_int Tryz.underlying3 h
 exact⟨z,h1,(by simpa [IntKind.min,IntKind.max,IntKind.signed,IntKind.bits] using h2),(by simpa [IntKind.min,IntKind.max,IntKind.signed,IntKind.bits] using h3)⟩
theorem rdT2{H:Type}{enc:TypeId×Value→H}{w:World}{base:Nat}{spare:Nat→Bool}{held:Bool}{fuel:Nat}{cs:List Value}{x:DataW H×List MemPlace}(h:DataW.trod enc Tryz.prog w base spare held fuel 2 cs=some x):
  ∃(a0:Int),cs= [.int .i64 a0]∧((-9223372036854775808)≤a0∧a0≤9223372036854775807):=by
 obtain⟨z,h1,h2,h3⟩:=rd_int Tryz.underlying2 h
 exact⟨z,h1,(by simpa [IntKind.min,IntKind.max,IntKind.signed,IntKind.bits] using h2),(by simpa [IntKind.min,IntKind.max,IntKind.signed,IntKind.bits] using h3)⟩
theorem rdT22{H:Type}{enc:TypeId×Value→H}{w:World}{base:Nat}{spare:Nat→Bool}{held:Bool}{fuel:Nat}{cs:List Value}{x:DataW H×List MemPlace}(h:DataW.trod enc Tryz.prog w base spare held fuel 22 cs=some x):
  ∃(a0:Int),cs= [.int .u32 a0]∧(0≤a0∧a0≤4294967295):=by
 obtain⟨z,h1,h2,h3⟩:=rd_int Tryz.underlying22 h
 exact⟨z,h1,(by simpa [IntKind.min,IntKind.max,IntKind.signed,IntKind.bits] using h2),(by simpa [IntKind.min,IntKind.max,IntKind.signed,IntKind.bits] using h3)⟩
theorem rdT24{H:Type}{enc:TypeId×Value→H}{w:World}{base:Nat}{spare:Nat→Bool}{held:Bool}{fuel:Nat}{cs:List Value}{x:DataW H×List MemPlace}(h:DataW.trod enc Tryz.prog w base spare held fuel 24 cs=some x):
  ∃(a0:Int) (a1:Int) (a2:Int) (a3:Int) (a4:Int) (a5:Int) (a6:Int) (a7:Int) (a8:Int) (a9:Int),cs= [.int .i64 a0,.int .i64 a1,.int .i64 a2,.int .i64 a3,.int .i64 a4,.int .i64 a5,.int .i64 a6,.int .i64 a7,.int .i64 a8,.int .u32 a9]∧((-9223372036854775808)≤a0∧a0≤9223372036854775807)∧((-9223372036854775808)≤a1∧a1≤9223372036854775807)∧((-9223372036854775808)≤a2∧a2≤9223372036854775807)∧((-9223372036854775808)≤a3∧a3≤9223372036854775807)∧((-9223372036854775808)≤a4∧a4≤9223372036854775807)∧((-9223372036854775808)≤a5∧a5≤9223372036854775807)∧((-9223372036854775808)≤a6∧a6≤9223372036854775807)∧((-9223372036854775808)≤a7∧a7≤9223372036854775807)∧((-9223372036854775808)≤a8∧a8≤9223372036854775807)∧(0≤a9∧a9≤4294967295):=by
 have hl:cs.length=10:=(rd_parts Tryz.underlying24 h).1.trans kr
 match cs,hl,h with
 | [c0,c1,c2,c3,c4,c5,c6,c7,c8,c9],_,h=>
  obtain⟨y0,n0,h0⟩:=rd_field Tryz.underlying24 h 0 _ rfl 1 kr
  obtain⟨a0,e0,p0_0⟩:=rdT3 h0
  have e0: [c0]= [.int .i64 a0]:=e0
  simp only[List.cons.injEq,and_true] at e0
  obtain rfl:=e0
  obtain⟨y1,n1,h1⟩:=rd_field Tryz.underlying24 h 1 _ rfl 1 kr
  obtain⟨a1,e1,p1_0⟩:=rdT3 h1
  have e1: [c1]= [.int .i64 a1]:=e1
  simp only[List.cons.injEq,and_true] at e1
  obtain rfl:=e1
  obtain⟨y2,n2,h2⟩:=rd_field Tryz.underlying24 h 2 _ rfl 1 kr
  obtain⟨a2,e2,p2_0⟩:=rdT3 h2
  have e2: [c2]= [.int .i64 a2]:=e2
  simp only[List.cons.injEq,and_true] at e2
  obtain rfl:=e2
  obtain⟨y3,n3,h3⟩:=rd_field Tryz.underlying24 h 3 _ rfl 1 kr
  obtain⟨a3,e3,p3_0⟩:=rdT3 h3
  have e3: [c3]= [.int .i64 a3]:=e3
  simp only[List.cons.injEq,and_true] at e3
  obtain rfl:=e3
  obtain⟨y4,n4,h4⟩:=rd_field Tryz.underlying24 h 4 _ rfl 1 kr
  obtain⟨a4,e4,p4_0⟩:=rdT3 h4
  have e4: [c4]= [.int .i64 a4]:=e4
  simp only[List.cons.injEq,and_true] at e4
  obtain rfl:=e4
  obtain⟨y5,n5,h5⟩:=rd_field Tryz.underlying24 h 5 _ rfl 1 kr
  obtain⟨a5,e5,p5_0⟩:=rdT3 h5
  have e5: [c5]= [.int .i64 a5]:=e5
  simp only[List.cons.injEq,and_true] at e5
  obtain rfl:=e5
  obtain⟨y6,n6,h6⟩:=rd_field Tryz.underlying24 h 6 _ rfl 1 kr
  obtain⟨a6,e6,p6_0⟩:=rdT3 h6
  have e6: [c6]= [.int .i64 a6]:=e6
  simp only[List.cons.injEq,and_true] at e6
  obtain rfl:=e6
  obtain⟨y7,n7,h7⟩:=rd_field Tryz.underlying24 h 7 _ rfl 1 kr
  obtain⟨a7,e7,p7_0⟩:=rdT2 h7
  have e7: [c7]= [.int .i64 a7]:=e7
  simp only[List.cons.injEq,and_true] at e7
  obtain rfl:=e7
  obtain⟨y8,n8,h8⟩:=rd_field Tryz.underlying24 h 8 _ rfl 1 kr
  obtain⟨a8,e8,p8_0⟩:=rdT2 h8
  have e8: [c8]= [.int .i64 a8]:=e8
  simp only[List.cons.injEq,and_true] at e8
  obtain rfl:=e8
  obtain⟨y9,n9,h9⟩:=rd_field Tryz.underlying24 h 9 _ rfl 1 kr
  obtain⟨a9,e9,p9_0⟩:=rdT22 h9
  have e9: [c9]= [.int .u32 a9]:=e9
  simp only[List.cons.injEq,and_true] at e9
  obtain rfl:=e9
  exact⟨a0,a1,a2,a3,a4,a5,a6,a7,a8,a9,rfl,p0_0,p1_0,p2_0,p3_0,p4_0,p5_0,p6_0,p7_0,p8_0,p9_0⟩
namespace batchPlaysRow
theorem own:ownKnob Tryz.prog.godebug=none:=by kernel_rfl
theorem laidOut:laidOutB Tryz.prog=true:=by kernel_rfl
theorem gTab:Tryz.prog.globalNamed "estray/answer.letters" =some 0:=by kernel_rfl
theorem gTabType:(Tryz.prog.globals[0]?).map (·.type)=some 353:=by kernel_rfl
theorem cellsT:Tryz.prog.cellsOf 353=4:=by kernel_rfl
theorem cellsE:Tryz.prog.cellsOf 5=1:=by kernel_rfl
theorem lett{W:World}(h:laidMetH Tryz.prog Rows.batchPlaysRow.laid W):Lett W:=by
 have ht:Lib.TabIs Tryz.prog W "estray/answer.letters" .u8 [0,111,108,102]:=Lib.tabIs_of_head (rest:= []) gTab gTabType Tryz.underlying353 Tryz.underlying5 cellsE cellsT h
 intro j v hj
 match j,hj with
 |0,hj=>simp at hj;subst hj;exact ht.cell gTab 0 dc
 |1,hj=>simp at hj;subst hj;exact ht.cell gTab 1 dc
 |2,hj=>simp at hj;subst hj;exact ht.cell gTab 2 dc
 |3,hj=>simp at hj;subst hj;exact ht.cell gTab 3 dc
set_option maxRecDepth 100000 in
set_option maxHeartbeats 4000000 in
theorem contract(H:Type)(enc:TypeId×Value→H)(W:World)(base:Nat)(args:Array Value)(ds gs:List (DataW H))(before:List MemPlace)
 (hval0: ∀(j:Nat) t v,Tryz.f8.params[j]? =some t→args[j]? =some v→Value.okWide Tryz.prog W .any base t v)
 (hW:DataW.Whole enc Tryz.prog Tryz.f8.params.toList Rows.batchPlaysSpec.vars false W args.toList ds gs before)(hL:laidMetH Tryz.prog Rows.batchPlaysRow.laid W):
  Calls Tryz.prog 8 args W fun e W'=> ∃v,e= .returned v∧Rows.batchPlaysSpec.post enc Tryz.prog Tryz.f8 false true false false W args v W':=by
 have hg:=lett hL
 have hval: ∀(j:Nat) t v,Tryz.f8.params[j]? =some t→args[j]? =some v→Value.okWide Tryz.prog W .any base t v:=hval0
 have hW':=hW
 obtain⟨p,q,hA0,hV,rfl,hfz,hnd⟩:=hW
 have hA:DataW.TrodAll enc Tryz.prog W 0 (fun _=>true) true Tryz.f8.params.toList args.toList ds p:=hA0
 rw[Tryz.params8] at hA hval
 obtain⟨v0,vs0,d0,ds0,p0,q0,hargs,rfl,rfl,h0,r0⟩:=trodAll_cons hA
 obtain⟨v1,vs1,d1,ds1,p1,q1,rfl,rfl,rfl,h1,r1⟩:=trodAll_cons r0
 obtain⟨v2,vs2,d2,ds2,p2,q2,rfl,rfl,rfl,h2,r2⟩:=trodAll_cons r1
 obtain⟨v3,vs3,d3,ds3,p3,q3,rfl,rfl,rfl,h3,r3⟩:=trodAll_cons r2
 obtain⟨rfl,rfl,rfl⟩:=trodAll_nil r3
 obtain rfl:args= #[v0,v1,v2,v3]:=by cases args;simp_all
 obtain⟨rfl,rfl⟩:=trodVars_none hV
 have k0:=h0
 have lt0: ∀x∈p0,x.block<W.heap.size:=by obtain⟨m,hm⟩:=k0;exact DataW.trod_lt m _ _ _ hm
 obtain⟨s0,n0,c0,T0,rfl,hT0,hO0,hr0,hc0,hm0⟩:=rd_slice eTn_ok (ok:=TnOk) dc Tryz.underlying60 kr (fun h=>by obtain⟨a0,a1,e,g0,g1⟩:=rdT90 h;exact⟨⟨a0,a1⟩,e,⟨g0,g1⟩⟩) (hval 0 60 _ rfl rfl) h0
 have k1:=h1
 have lt1: ∀x∈p1,x.block<W.heap.size:=by obtain⟨m,hm⟩:=k1;exact DataW.trod_lt m _ _ _ hm
 obtain⟨cv1,rfl,hsz1⟩:=okWide_struct Tryz.underlying24 (hval 1 24 _ rfl rfl)
 obtain⟨fu1,hf1⟩:=h1
 obtain⟨a1_0,a1_1,a1_2,a1_3,a1_4,a1_5,a1_6,a1_7,a1_8,a1_9,e1,g1_0,g1_1,g1_2,g1_3,g1_4,g1_5,g1_6,g1_7,g1_8,g1_9⟩:=rdT24 hf1
 obtain rfl:cv1= #[.int .i64 a1_0,.int .i64 a1_1,.int .i64 a1_2,.int .i64 a1_3,.int .i64 a1_4,.int .i64 a1_5,.int .i64 a1_6,.int .i64 a1_7,.int .i64 a1_8,.int .u32 a1_9]:=by cases cv1;simpa [Value.cells] using e1
 have k2:=h2
 have lt2: ∀x∈p2,x.block<W.heap.size:=by obtain⟨m,hm⟩:=k2;exact DataW.trod_lt m _ _ _ hm
 obtain⟨a2,rfl⟩:=okWide_int Tryz.underlying2 (hval 2 2 _ rfl rfl)
 obtain⟨fu2,hf2⟩:=h2
 obtain⟨z2,e2,g2⟩:=rdT2 hf2
 obtain rfl:a2=z2:=by simpa [Value.cells] using e2
 have k3:=h3
 have lt3: ∀x∈p3,x.block<W.heap.size:=by obtain⟨m,hm⟩:=k3;exact DataW.trod_lt m _ _ _ hm
 obtain⟨a3,rfl⟩:=okWide_int Tryz.underlying3 (hval 3 3 _ rfl rfl)
 obtain⟨fu3,hf3⟩:=h3
 obtain⟨z3,e3,g3⟩:=rdT3 hf3
 obtain rfl:a3=z3:=by simpa [Value.cells] using e3
 refine(plays_law W hg s0 n0 c0 T0 hr0 hT0 hO0 a1_0 a1_1 a1_2 a1_3 a1_4 a1_5 a1_6 a1_7 a1_8 a1_9 a2 a3 W W [] (sat_start W)).mono fun e W' ⟨v,K,he,⟨hv,hK⟩,hs⟩=> ?_
 subst hv;subst hK;subst he
 have bel:Below W.heap.size W W':=sat_below (i:=0) hs rfl
 exact⟨_,rfl,_,_,_,[],_,[],hW',trodAll_mk1 (shut_bool Tryz.underlying4 _),(trodAll_cons_mk (Below.trod laidOut kr (of_decide_eq_true kr) k0 bel lt0) (trodAll_cons_mk (Below.trod laidOut kr (of_decide_eq_true kr) k1 bel lt1) (trodAll_cons_mk (Below.trod laidOut kr (of_decide_eq_true kr) k2 bel lt2) (trodAll_cons_mk (Below.trod laidOut kr (of_decide_eq_true kr) k3 bel lt3) trodAll_mk0)))),rfl,bel.frame _,fun h=>by cases h⟩
noncomputable def laidWorld(os:Os):World:=
 {World.holding Tryz.prog os ⟨#[],#[],[]⟩ with heap:=(World.holding Tryz.prog os ⟨#[],#[],[]⟩).heap.modify 0 fun
  | .cells _ t frozen=> .cells #[.int .u8 0,.int .u8 111,.int .u8 108,.int .u8 102] t frozen
  |o=>o}
theorem laid_met(os:Os):laidMet Tryz.prog Rows.batchPlaysRow.laid ((laidWorld os).forCall (fun _ _=>0) ⟨#[],#[.slice none 0 0,.agg #[.int .i64 0,.int .i64 0,.int .i64 0,.int .i64 0,.int .i64 0,.int .i64 0,.int .i64 0,.int .i64 0,.int .i64 0,.int .u32 0],.int .i64 0,.int .i64 0],[]⟩).memory:=
 laidMet_of_run' 8 kr kr
theorem reads(os:Os){H:Type}(enc:TypeId×Value→H): ∃places,DataW.whole enc Tryz.prog ((laidWorld os).forCall (fun _ _=>0) ⟨#[],#[.slice none 0 0,.agg #[.int .i64 0,.int .i64 0,.int .i64 0,.int .i64 0,.int .i64 0,.int .i64 0,.int .i64 0,.int .i64 0,.int .i64 0,.int .u32 0],.int .i64 0,.int .i64 0],[]⟩).memory Tryz.f8.params.toList Rows.batchPlaysSpec.vars false (#[.slice none 0 0,.agg #[.int .i64 0,.int .i64 0,.int .i64 0,.int .i64 0,.int .i64 0,.int .i64 0,.int .i64 0,.int .i64 0,.int .i64 0,.int .u32 0],.int .i64 0,.int .i64 0]:Array Value).toList 8=some ([.nil,.agg [.lit (.int .i64 0),.lit (.int .i64 0),.lit (.int .i64 0),.lit (.int .i64 0),.lit (.int .i64 0),.lit (.int .i64 0),.lit (.int .i64 0),.lit (.int .i64 0),.lit (.int .i64 0),.lit (.int .u32 0)],.lit (.int .i64 0),.lit (.int .i64 0)],[],places):=
 ⟨[],by kernel_rfl⟩
set_option maxRecDepth 100000 in
theorem lifted(os:Os)(started:os.Started)(H:Type)(enc:TypeId×Value→H)(F:Stop.Interp):
  ReturnsInHanded {} Tryz.checked os 8 .any ((OpenSpec.ofChange Rows.batchPlaysSpec).preRow enc Tryz.prog Tryz.f8 Rows.batchPlaysRow.domain false Rows.batchPlaysRow.laid) (((OpenSpec.ofChange Rows.batchPlaysSpec).at F).post enc Tryz.prog Tryz.f8 false true false false):=by
 obtain⟨places,hx⟩:=reads os enc
 refine returnsInHanded_of_row (C:=Tryz.checked) (s:=OpenSpec.ofChange Rows.batchPlaysSpec) own started kr Tryz.func8
  (witness_row_at (enc:=enc) (C:=Tryz.checked) false (laidWorld os) #[.slice none 0 0,.agg #[.int .i64 0,.int .i64 0,.int .i64 0,.int .i64 0,.int .i64 0,.int .i64 0,.int .i64 0,.int .i64 0,.int .i64 0,.int .u32 0],.int .i64 0,.int .i64 0] rfl kr kr kr
   (OpenSpec.preRow_of_cond 8 hx kr (fun k hk=>by cases hk) kr (laid_met os))) ?_
 intro W base args ds gs before hval hW _ _ _ hL _ _
 exact contract H enc W base args ds gs before hval hW hL
end batchPlaysRow
end Go.Proofs.YtehlamblpekmkaaGreatDoor
