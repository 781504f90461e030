/-
  From walks outside any fence to walks in a round of a range over a function: operations and regions carry over. No program in sight.
-/
import Derived.Test.YtcgkoffnknpgjaaGreatDoorLawsx
import Derived.OrdersIn
import Derived.RangeFuncCalls
namespace Go.Proofs.YtcgkoffnknpgjaaGreatDoor
set_option linter.unusedVariables false
set_option linter.unusedSimpArgs false
abbrev FW(r:Option Nat):Fence:= {Fence.wide with round:=r}
section
variable {r : Option Nat} {m : Nat} {P : Program} {Q : Exit → Act → World → Prop} {ops : Array Oper}
theorem Jz{f:FuncId}{args:Array Value}{w:World}{R:Ending→World→Prop}(h:Calls P f args w R):CallsIn (FW r) m P f args w R:=by
 have h1:=(callsIn_wide (n:=m)).2 h
 cases r with
 |none=>exact h1
 |some l=>exact h1.inRound l
theorem HR{f:FuncId}{args:Array Value}{w:World}{R:Ending→World→Prop}(h:CallsIn (FW none) m P f args w R):Calls P f args w R:=callsIn_wide.1 h
theorem cF{row:String}{args:Array Value}{w:World}{R:Value→World→Prop}(h:Rows P row args w R):RowsIn (FW r) m P row args w R:=by
 have h1:RowsIn Fence.wide m P row args w R:=fun c cs _=>let ⟨v,w',hR,s⟩:=h c cs;⟨v,w',hR,stepsIn_wide.2 s⟩
 cases r with
 |none=>exact h1
 |some l=>exact h1
def Bi(ops:Array Oper):Bool:=ops.all fun o=>match o.op with | .defer _=>false| .call _=>true|_=>true
theorem sY{o:Oper}{a:Act}{w:World}{N:Act→World→Prop}(hd: ∀c,o.op≠ .defer c)(h:o.wp P a w N Q):o.wpIn (FW r) m P a w N Q:=by
 refine⟨fun _ _=>trivial,?_⟩
 rw[Oper.semAt_eq _ _ _ hd]
 unfold Oper.wp at h
 generalize (execOp a.eval o).run P w=res at*
 cases res with
 |ok n w'=>
  cases n with
  |enter f args=>exact⟨fun hh=>by simp[Fence.wide] at hh,(Jz h).mono fun e w'' he=>by cases e<;>exact he⟩
  |row row args=>exact⟨fun hh=>by simp[Fence.wide] at hh,cF h⟩
  |round l f tmps assign body=>exact h.elim
  |_=>exact h
 |halt x w'=>cases x<;>simp only[Oper.upon,Oper.uponIn] at h ⊢ <;>exact h
theorem VH{i:Nat}{o:Oper}(h:Bi ops=true)(ho:ops[i]? =some o): ∀c,o.op≠ .defer c:=by
 intro c e
 have h1:=Array.all_eq_true'.1 h o (Array.mem_of_getElem? ho)
 rw[e] at h1
 cases h1
theorem J0(hd:Bi ops=true)(hL: ¬LetsOut Q){i:Nat}{K:Act→World→Prop}{a:Act}{w:World}(h:wpOp P ops Q i K a w):wpOpIn (FW r) m P ops Q i K a w:=by
 unfold wpOp at h
 unfold wpOpIn
 cases ho:ops[i]? with
 |none=>simpa [ho] using h
 |some o=>
  simp only[ho] at h ⊢
  split
  · rename_i hw
    simp only[hw,if_true] at h
    rcases h with h|⟨_,h⟩
    · exact sY (VH hd ho) h
    · exact absurd h hL
  · rename_i hw
    simp only[hw] at h
    exact⟨fun _ _=>trivial,h⟩
theorem J1(hd:Bi ops=true)(hL: ¬LetsOut Q): ∀(l:List Nat) (a:Act) (w:World),wpOps P ops Q l a w→wpOpsIn (FW r) m P ops Q l a w
 | [],_,_,h=>h
 |i::l,a,w,h=>by
  rw[wpOps_cons] at h
  rw[wpOpsIn_cons]
  exact wpOpIn_mono (fun a w h=>J1 hd hL l a w h) (J0 hd hL h)
theorem XE(hd:Bi ops=true)(hL: ¬LetsOut Q){md:Region.Mode}: ∀(f:Nat) (l:Array Bool) (a:Act) (w:World),wpAny P md ops Q f l a w→wpAnyIn (FW r) m P md ops Q f l a w
 |0,_,_,_,h=>h
 |f+1,l,a,w,h=>⟨h.1,fun i hi=>wpOpIn_mono (fun a w h=>XE hd hL f _ a w h) (J0 hd hL (h.2 i hi))⟩
theorem J2(hd:Bi ops=true)(hL: ¬LetsOut Q)(rest:List Nat){K:Act→World→Prop}(hK: ∀a w,K a w→wpOpsIn (FW r) m P ops Q rest a w): ∀(l:List Nat) (a:Act) (w:World),wpOps P ops (Exit.then K Q) l a w→wpOpsIn (FW r) m P ops Q (l++rest) a w
 | [],a,w,h=>hK a w h
 |i::l,a,w,h=>by
  rw[wpOps_cons] at h
  rw[List.cons_append,wpOpsIn_cons]
  have h2:wpOpIn (FW r) m P ops (Exit.then K Q) i (wpOps P ops (Exit.then K Q) l) a w:=J0 hd (fun⟨a,w,h⟩=>hL ⟨a,w,h⟩) h
  have h3:wpOpIn (FW r) m P ops Q i (wpOps P ops (Exit.then K Q) l) a w:=by
   unfold wpOpIn at h2 ⊢
   split
   · rename_i e;simpa [e] using h2
   · rename_i o e
     simp only[e] at h2
     split
     · rename_i hw
       simp only[hw,if_true] at h2
       refine⟨h2.1,?_⟩
       have h4:=h2.2
       generalize (o.semAt (FW r).round a.eval).run P w=res at h4 ⊢
       cases res with
       |ok n w'=>
        cases n with
        |enter f args=>exact⟨h4.1,h4.2.mono fun e w'' he=>by cases e<;>exact he⟩
        |round l f tmps as bd=>exact⟨h4.1,h4.2.mono fun e w'' he=>by cases e<;>exact he⟩
        |_=>exact h4
       |halt x w'=>cases x<;>exact h4
     · rename_i hw;simp only[hw] at h2;exact h2
  exact wpOpIn_mono (fun a w h=>J2 hd hL rest hK l a w h) h3
end
end Go.Proofs.YtcgkoffnknpgjaaGreatDoor
