/-
  Remainders and quotients of integers that are not negative, said exactly. Lemmas of the engine, no program.
-/
import Derived.Test.YtehlamblpekmkaaGreatDoorLst
namespace Go.Proofs.YtehlamblpekmkaaGreatDoor
theorem rem_ex{a b:Int}(ha:0≤a):a.tmod b=a%b:=Int.tmod_eq_emod_of_nonneg ha
theorem quo_bd{a b:Int}(ha:0≤a)(hb:1≤b):0≤a/b∧a/b≤a:=⟨Int.ediv_nonneg ha om,Int.ediv_le_self _ ha⟩
theorem quo_i64{a b:Int}(ha:0≤a)(hb:1≤b)(hm:a≤9223372036854775807):IntKind.wrap .i64 (a.tdiv b)=a/b:=by
 have h:=quo_bd ha hb
 rw[Int.tdiv_eq_ediv_of_nonneg ha,wrap_in .i64 _ (by simp[IntKind.min,IntKind.signed,IntKind.bits];omega) (by simp[IntKind.max,IntKind.signed,IntKind.bits];omega)]
theorem law_indexArrK{P:Program}{n:Nat}{l:Fr}{o:Oper}{t len e:Nat}{x i:Operand}(ho:o.op= .indexAddr t x i)(ht:P.underlying t=some (.array len e))(sz:Nat)(hs:(P.info? e).map (·.size)=some sz){b off:Nat}{z:Int}(k:Nat)
 (hx:fe n l x= .pointer (some ⟨b,off,none⟩))(hi:fe n l i= .int .u16 z)(hz:z=(k:Int))(hk:k<len)(off':Nat)(he:off+k*sz=off')(w:World):
  (execOp (fe n l) o).run P w= .ok (.value (.pointer (some ⟨b,off',none⟩))) w:=by
 subst hz
 subst he
 cases hq:P.info? e with
 |none=>simp[hq] at hs
 |some inf=>
  have hs':inf.size=sz:=by simpa [hq] using hs
  have hk': ¬len≤k:=by omega
  simp[execOp,ho,hx,hi,Instr.indexAt,asIntOf,run_underlying ht,Instr.sureAddr,sizeOf,typeInfo,hq,hs',hk,hk',add_off]
theorem ov_u16{x z:Int}(h:x=z)(h0:0≤z)(h1:z≤65535):Value.int .u16 (IntKind.wrap .u16 x)=Value.int .u16 z:=by
 subst h;rw[wrap_in .u16 x (by simpa [IntKind.min,IntKind.signed,IntKind.bits] using h0) (by simpa [IntKind.max,IntKind.signed,IntKind.bits] using h1)]
theorem quo_u16{a b:Int}(ha:0≤a)(hb:1≤b)(hm:a≤65535):IntKind.wrap .u16 (a.tdiv b)=a/b:=by
 have h:=quo_bd ha hb
 rw[Int.tdiv_eq_ediv_of_nonneg ha,wrap_in .u16 _ (by simp[IntKind.min,IntKind.signed,IntKind.bits];omega) (by simp[IntKind.max,IntKind.signed,IntKind.bits];omega)]
theorem emod_le{a b:Int}(ha:0≤a)(hb:1≤b):a%b≤a:=by
 have h:=Int.mul_ediv_add_emod a b
 have h1:=Int.ediv_nonneg ha (by omega:0≤b)
 have h2:=Int.mul_nonneg (by omega:0≤b) h1
 omega
theorem rem_bd{a b:Int}(ha:0≤a)(hb:1≤b):0≤a%b∧a%b<b∧a%b≤a:=by
 have h1:=Int.emod_nonneg a (b:=b) om
 have h2:=Int.emod_lt_of_pos a (b:=b) om
 have h3:=emod_le ha hb
 exact⟨h1,h2,h3⟩
end Go.Proofs.YtehlamblpekmkaaGreatDoor
