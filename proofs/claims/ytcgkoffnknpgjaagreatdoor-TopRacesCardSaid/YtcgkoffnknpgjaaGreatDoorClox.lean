/-
  The functions that a function comes to, reckoned with a number's bits in place of a list's search. No program in sight.
-/
import GoSem.ClaimSeven
import Derived.Test.YtcgkoffnknpgjaaGreatDoorSepx
import Derived.KernelRfl
namespace Go.Proofs.YtcgkoffnknpgjaaGreatDoor
set_option linter.unusedVariables false
set_option linter.unusedSimpArgs false
def sH(P:Program):Nat→List FuncId→Nat→List FuncId→Option (List FuncId)
 |0,_,_,_=>none
 |_+1,[],_,seen=>some seen.reverse
 |n+1,f::todo,mask,seen=>match mask.testBit f with
  |true=>sH P n todo mask seen
  |false=>sH P n ((P.funcs[f]?).elim [] P.leadsTo++todo) (mask|||(1<<<f)) (f::seen)
theorem O2(P:Program): ∀(n:Nat) (todo:List FuncId) (mask:Nat) (seen L:List FuncId),(∀g:Nat,mask.testBit g=seen.contains g)→sH P n todo mask seen=some L→ ∀fuel,n≤fuel→P.closureVia fuel todo seen=L
 |0,_,_,_,_,_,h,_,_=>by cases h
 |n+1,[],mask,seen,L,hm,h,fuel,hf=>by
  simp only[sH,Option.some.injEq] at h
  cases fuel with
  |zero=>omega
  |succ k=>simp only[Program.closureVia];exact h
 |n+1,f::todo,mask,seen,L,hm,h,fuel,hf=>by
  cases fuel with
  |zero=>omega
  |succ k=>
   have hk:n≤k:=by omega
   simp only[sH] at h
   simp only[Program.closureVia]
   rw[←hm f]
   cases hb:mask.testBit f with
   |true=>
    rw[hb] at h
    rw[if_pos rfl]
    exact O2 P n todo mask seen L hm h k hk
   |false=>
    rw[hb] at h
    rw[if_neg dc]
    refine O2 P n _ _ _ L (fun g=> ?_) h k hk
    rw[Nat.testBit_or,hm g,Nat.one_shiftLeft,Nat.testBit_two_pow,List.contains_cons]
    by_cases e:f=g
    · subst e;simp
    · have e2: ¬g=f:=fun h=>e h.symm
      simp[e,e2]
theorem rV{P:Program}{f:FuncId}{L:List FuncId}(n:Nat)(h:sH P n [f] 0 []=some L)(hn:n≤1+(P.funcs.toList.map fun g=>(P.leadsTo g).length+1).sum):P.closure f=L:=
 O2 P n [f] 0 [] L (fun g=>by rw[Nat.zero_testBit];rfl) h _ hn
theorem kA{P:Program}{f:FuncId}(h:P.funcs.any Func.goes=false):P.goes f=false:=by
 have h1: ∀fn∈P.funcs,Func.goes fn=false:=fun fn hf=>by
  cases hb:Func.goes fn with
  |false=>rfl
  |true=>rw[Array.any_eq_true'.2 ⟨fn,hf,hb⟩] at h;cases h
 unfold Program.goes
 rw[h,Bool.and_false,Bool.or_false,List.any_eq_false]
 intro g _ hg
 cases hq:P.funcs[g]? with
 |none=>rw[hq] at hg;cases hg
 |some fn=>
  rw[hq] at hg
  rw[Option.any_some,h1 fn (Array.mem_of_getElem? hq)] at hg
  cases hg
end Go.Proofs.YtcgkoffnknpgjaaGreatDoor
