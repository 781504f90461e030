/-
  Remainders and quotients of integers that are not negative, xJ exactly. Lemmas of the engine, no program.
-/
import Derived.Test.YtcgkoffnknpgjaaGreatDoorLstx
namespace Go.Proofs.YtcgkoffnknpgjaaGreatDoor
set_option linter.unusedVariables false
set_option linter.unusedSimpArgs false
theorem EL{a b:Int}(ha:0≤a):a.tmod b=a%b:=Int.tmod_eq_emod_of_nonneg ha
theorem Rz{a b:Int}(ha:0≤a)(hb:1≤b):0≤a/b∧a/b≤a:=⟨Int.ediv_nonneg ha om,Int.ediv_le_self _ ha⟩
theorem Xl{a b:Int}(ha:0≤a)(hb:1≤b)(hm:a≤255):IntKind.wrap .u8 (a.tdiv b)=a/b:=by
 have h:=Rz ha hb
 rw[Int.tdiv_eq_ediv_of_nonneg ha,HM .u8 _ (by simp[IntKind.min,IntKind.signed,IntKind.bits];omega) (by simp[IntKind.max,IntKind.signed,IntKind.bits];omega)]
theorem dD{a b:Int}(ha:0≤a)(hb:1≤b):a%b≤a:=by
 have h:=Int.mul_ediv_add_emod a b
 have h1:=Int.ediv_nonneg ha (by omega:0≤b)
 have h2:=Int.mul_nonneg (by omega:0≤b) h1
 omega
theorem Ez{a b:Int}(ha:0≤a)(hb:1≤b):0≤a%b∧a%b<b∧a%b≤a:=by
 have h1:=Int.emod_nonneg a (b:=b) om
 have h2:=Int.emod_lt_of_pos a (b:=b) om
 have h3:=dD ha hb
 exact⟨h1,h2,h3⟩
end Go.Proofs.YtcgkoffnknpgjaaGreatDoor
