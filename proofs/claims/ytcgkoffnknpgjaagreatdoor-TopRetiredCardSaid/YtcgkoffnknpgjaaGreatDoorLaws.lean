/-
  Laws of single operations for my walks: wraps, comparisons, indexing, slicing. No program in sight.
-/
import Derived.Test.YtcgkoffnknpgjaaGreatDoorEng
import Derived.WalkSpells
namespace Go.Proofs.YtcgkoffnknpgjaaGreatDoor
set_option linter.unusedVariables false
set_option linter.unusedSimpArgs false
variable {ds : List Deferred}
theorem wrap_in(k:IntKind)(x:Int)(h0:k.min≤x)(h1:x≤k.max):k.wrap x=x:=by
 cases k<;>simp[IntKind.min,IntKind.max,IntKind.signed,IntKind.bits] at h0 h1<;>simp[IntKind.wrap,IntKind.signed,IntKind.bits]<;>omega
theorem ov_i64{x z:Int}(h:x=z)(h0: -9223372036854775808≤z)(h1:z≤9223372036854775807):Value.int .i64 (IntKind.wrap .i64 x)=Value.int .i64 z:=by
 subst h;rw[wrap_in .i64 x (by simpa [IntKind.min,IntKind.signed,IntKind.bits] using h0) (by simpa [IntKind.max,IntKind.signed,IntKind.bits] using h1)]
theorem ov_u64{x z:Int}(h:x=z)(h0:0≤z)(h1:z≤18446744073709551615):Value.int .u64 (IntKind.wrap .u64 x)=Value.int .u64 z:=by
 subst h;rw[wrap_in .u64 x (by simpa [IntKind.min,IntKind.signed,IntKind.bits] using h0) (by simpa [IntKind.max,IntKind.signed,IntKind.bits] using h1)]
theorem ov_u32{x z:Int}(h:x=z)(h0:0≤z)(h1:z≤4294967295):Value.int .u32 (IntKind.wrap .u32 x)=Value.int .u32 z:=by
 subst h;rw[wrap_in .u32 x (by simpa [IntKind.min,IntKind.signed,IntKind.bits] using h0) (by simpa [IntKind.max,IntKind.signed,IntKind.bits] using h1)]
theorem ov_u8{x z:Int}(h:x=z)(h0:0≤z)(h1:z≤255):Value.int .u8 (IntKind.wrap .u8 x)=Value.int .u8 z:=by
 subst h;rw[wrap_in .u8 x (by simpa [IntKind.min,IntKind.signed,IntKind.bits] using h0) (by simpa [IntKind.max,IntKind.signed,IntKind.bits] using h1)]
theorem ov_int{k:IntKind}{x z:Int}(h:x=z):Value.int k x=Value.int k z:=by rw[h]
theorem ov_t{p:Prop}[Decidable p](h:p):Value.bool (decide p)=Value.bool true:=by rw[decide_eq_true h]
theorem ov_f{p:Prop}[Decidable p](h: ¬p):Value.bool (decide p)=Value.bool false:=by rw[decide_eq_false h]
theorem ov_et{x y:Int}(h:x=y):Value.bool (x==y)=Value.bool true:=by rw[h];simp
theorem ov_ef{x y:Int}(h:x≠y):Value.bool (x==y)=Value.bool false:=by simp[h]
theorem ov_nt{x y:Int}(h:x≠y):Value.bool (x != y)=Value.bool true:=by simp[h]
theorem ov_nf{x y:Int}(h:x=y):Value.bool (x != y)=Value.bool false:=by rw[h];simp
theorem ov_b{x y:Bool}(h:x=y):Value.bool x=Value.bool y:=by rw[h]
section
variable {P : Program} {n : Nat} {l : Fr} {o : Oper}
theorem add_off(b off k:Nat):(⟨b,off,none⟩:Addr).add k=⟨b,off+k,none⟩:=by
 unfold Addr.add
 split
 · rename_i h;subst h;rfl
 · rfl
theorem law_indexArr{t len e:Nat}{x i:Operand}(ho:o.op= .indexAddr t x i)(ht:P.underlying t=some (.array len e))(sz:Nat)(hs:(P.info? e).map (·.size)=some sz){b off:Nat}{z:Int}(k:Nat)
 (hx:fe n l x= .pointer (some ⟨b,off,none⟩))(hi:fe n l i= .int .i64 z)(hz:z=(k:Int))(hk:k<len)(off':Nat)(he:off+k*sz=off')(w:World):
  (execOp (fe n l) o).run P w= .ok (.value (.pointer (some ⟨b,off',none⟩))) w:=by
 subst hz
 subst he
 cases hq:P.info? e with
 |none=>simp[hq] at hs
 |some inf=>
  have hs':inf.size=sz:=by simpa [hq] using hs
  have hk': ¬len≤k:=by omega
  simp[execOp,ho,hx,hi,Instr.indexAt,asIntOf,run_underlying ht,Instr.sureAddr,sizeOf,typeInfo,hq,hs',hk,hk',add_off]
theorem law_indexSl{t e len cap:Nat}{x i:Operand}(ho:o.op= .indexAddr t x i)(ht:P.underlying t=some (.slice e))(sz:Nat)(hs:(P.info? e).map (·.size)=some sz){b off:Nat}{z:Int}(k:Nat)
 (hx:fe n l x= .slice (some ⟨b,off,none⟩) len cap)(hi:fe n l i= .int .i64 z)(hz:z=(k:Int))(hk:k<len)(off':Nat)(he:off+k*sz=off')(w:World):
  (execOp (fe n l) o).run P w= .ok (.value (.pointer (some ⟨b,off',none⟩))) w:=by
 subst hz
 subst he
 cases hq:P.info? e with
 |none=>simp[hq] at hs
 |some inf=>
  have hs':inf.size=sz:=by simpa [hq] using hs
  have hk': ¬len≤k:=by omega
  simp[execOp,ho,hx,hi,Instr.indexAt,asIntOf,run_underlying ht,sizeOf,typeInfo,hq,hs',hk,hk',add_off]
theorem law_sliceArr{t e m:Nat}{x:Operand}{lo hi:Option Operand}(ho:o.op= .slice t x lo hi none)(ht:P.underlying t=some (.array m e))(sz:Nat)(hs:(P.info? e).map (·.size)=some sz){b off:Nat}(zl zh:Int)(kl kh:Nat)
 (hx:fe n l x= .pointer (some ⟨b,off,none⟩))(hlo:match lo with |some q=>fe n l q= .int .i64 zl|none=>zl=0)(hhi:match hi with |some q=>fe n l q= .int .i64 zh|none=>zh=(m:Int))
 (hl:zl=(kl:Int))(hh:zh=(kh:Int))(h1:kl≤kh)(h2:kh≤m)(off':Nat)(he:(if m=kl then off else off+kl*sz)=off')(len cap:Nat)(hlen:kh-kl=len)(hcap:m-kl=cap)(w:World):
  (execOp (fe n l) o).run P w= .ok (.value (.slice (some ⟨b,off',none⟩) len cap)) w:=by
 subst hl;subst hh;subst he;subst hlen;subst hcap
 cases hq:P.info? e with
 |none=>simp[hq] at hs
 |some inf=>
  have hs':inf.size=sz:=by simpa [hq] using hs
  have a1: ¬kh<kl:=by omega
  have a2: ¬m<kh:=by omega
  cases lo with
  |none=>
   have:kl=0:=by simpa using hlo
   subst this
   cases hi with
   |none=>
    have:kh=m:=by simp at hhi;omega
    subst this
    by_cases hm:kh=0
    · simp[execOp,ho,hx,Instr.sliceAt,run_underlying ht,Instr.sureAddr,Instr.sliceBounds,sizeOf,typeInfo,hq,hs',hm]
    · simp[execOp,ho,hx,Instr.sliceAt,run_underlying ht,Instr.sureAddr,Instr.sliceBounds,sizeOf,typeInfo,hq,hs',hm,add_off]
   |some qh=>
    simp only at hhi
    by_cases hm:m=0
    · simp[execOp,ho,hx,hhi,Instr.sliceAt,run_underlying ht,Instr.sureAddr,Instr.sliceBounds,Instr.sliceBound,asIntOf,sizeOf,typeInfo,hq,hs',h2,a2,hm]
      have:kh=0:=by omega
      simp[this]
    · simp[execOp,ho,hx,hhi,Instr.sliceAt,run_underlying ht,Instr.sureAddr,Instr.sliceBounds,Instr.sliceBound,asIntOf,sizeOf,typeInfo,hq,hs',h2,a2,hm,add_off]
  |some ql=>
   simp only at hlo
   cases hi with
   |none=>
    have:kh=m:=by simp at hhi;omega
    subst this
    by_cases hm:kh=kl
    · simp[execOp,ho,hx,hlo,Instr.sliceAt,run_underlying ht,Instr.sureAddr,Instr.sliceBounds,Instr.sliceBound,asIntOf,sizeOf,typeInfo,hq,hs',hm]
    · simp[execOp,ho,hx,hlo,Instr.sliceAt,run_underlying ht,Instr.sureAddr,Instr.sliceBounds,Instr.sliceBound,asIntOf,sizeOf,typeInfo,hq,hs',h1,a1,hm,add_off]
   |some qh=>
    simp only at hhi
    by_cases hm:m=kl
    · have:kh=kl:=by omega
      subst this
      simp[execOp,ho,hx,hlo,hhi,Instr.sliceAt,run_underlying ht,Instr.sureAddr,Instr.sliceBounds,Instr.sliceBound,asIntOf,sizeOf,typeInfo,hq,hs',h2,a2,hm]
    · simp[execOp,ho,hx,hlo,hhi,Instr.sliceAt,run_underlying ht,Instr.sureAddr,Instr.sliceBounds,Instr.sliceBound,asIntOf,sizeOf,typeInfo,hq,hs',h1,h2,a1,a2,hm,add_off]
theorem law_sliceSl{t e m c:Nat}{x:Operand}{lo hi:Option Operand}(ho:o.op= .slice t x lo hi none)(ht:P.underlying t=some (.slice e))(sz:Nat)(hs:(P.info? e).map (·.size)=some sz){b off:Nat}(zl zh:Int)(kl kh:Nat)
 (hx:fe n l x= .slice (some ⟨b,off,none⟩) m c)(hlo:match lo with |some q=>fe n l q= .int .i64 zl|none=>zl=0)(hhi:match hi with |some q=>fe n l q= .int .i64 zh|none=>zh=(m:Int))
 (hl:zl=(kl:Int))(hh:zh=(kh:Int))(h1:kl≤kh)(h2:kh≤c)(off':Nat)(he:(if c=kl then off else off+kl*sz)=off')(len cap:Nat)(hlen:kh-kl=len)(hcap:c-kl=cap)(w:World):
  (execOp (fe n l) o).run P w= .ok (.value (.slice (some ⟨b,off',none⟩) len cap)) w:=by
 subst hl;subst hh;subst he;subst hlen;subst hcap
 cases hq:P.info? e with
 |none=>simp[hq] at hs
 |some inf=>
  have hs':inf.size=sz:=by simpa [hq] using hs
  have a1: ¬kh<kl:=by omega
  have a2: ¬c<kh:=by omega
  cases lo with
  |none=>
   have:kl=0:=by simpa using hlo
   subst this
   cases hi with
   |none=>
    have:kh=m:=by simp at hhi;omega
    subst this
    by_cases hm:c=0
    · simp[execOp,ho,hx,Instr.sliceAt,Instr.slice,run_underlying ht,Instr.sliceBounds,sizeOf,typeInfo,hq,hs',hm]
    · simp[execOp,ho,hx,Instr.sliceAt,Instr.slice,run_underlying ht,Instr.sliceBounds,sizeOf,typeInfo,hq,hs',hm,add_off]
   |some qh=>
    simp only at hhi
    by_cases hm:c=0
    · have:kh=0:=by omega
      subst this
      simp[execOp,ho,hx,hhi,Instr.sliceAt,Instr.slice,run_underlying ht,Instr.sliceBounds,Instr.sliceBound,asIntOf,sizeOf,typeInfo,hq,hs',hm]
    · simp[execOp,ho,hx,hhi,Instr.sliceAt,Instr.slice,run_underlying ht,Instr.sliceBounds,Instr.sliceBound,asIntOf,sizeOf,typeInfo,hq,hs',h2,a2,hm,add_off]
  |some ql=>
   simp only at hlo
   cases hi with
   |none=>
    have:kh=m:=by simp at hhi;omega
    subst this
    by_cases hm:c=kl
    · have:kh=kl:=by omega
      subst this
      simp[execOp,ho,hx,hlo,Instr.sliceAt,Instr.slice,run_underlying ht,Instr.sliceBounds,Instr.sliceBound,asIntOf,sizeOf,typeInfo,hq,hs',hm]
    · simp[execOp,ho,hx,hlo,Instr.sliceAt,Instr.slice,run_underlying ht,Instr.sliceBounds,Instr.sliceBound,asIntOf,sizeOf,typeInfo,hq,hs',h1,a1,hm,add_off]
   |some qh=>
    simp only at hhi
    by_cases hm:c=kl
    · have:kh=kl:=by omega
      subst this
      simp[execOp,ho,hx,hlo,hhi,Instr.sliceAt,Instr.slice,run_underlying ht,Instr.sliceBounds,Instr.sliceBound,asIntOf,sizeOf,typeInfo,hq,hs',h2,a2,hm]
    · simp[execOp,ho,hx,hlo,hhi,Instr.sliceAt,Instr.slice,run_underlying ht,Instr.sliceBounds,Instr.sliceBound,asIntOf,sizeOf,typeInfo,hq,hs',h1,h2,a1,a2,hm,add_off]
end
theorem ite_r{c:Prop}[Decidable c]{a b b':Nat}(h:b=b'):(if c then a else b)=(if c then a else b'):=by rw[h]
def AllP{α:Type}(p:α→Prop):List α→Prop
 | []=>True
 |x::r=>p x∧AllP p r
theorem allq{α:Type}{p:α→Prop}: ∀ {l:List α},AllP p l→ ∀q∈l,p q
 | [],_,q,hq=>by cases hq
 |_::_,h,q,hq=>by
  rcases List.mem_cons.1 hq with rfl |hq
  · exact h.1
  · exact allq h.2 q hq
def AllLk(l:Fr):Fr→Prop
 | []=>True
 |(k,v)::r=>lk l k=v∧AllLk l r
theorem mk_live{n:Nat}{l:Fr}: ∀(live:Fr),AllLk l live→mkd ds n l=mkd ds n (live++l)
 | [],_=>rfl
 |(k,v)::r,h=>by
  have h1:=mk_live (n:=n) r h.2
  have h2:lk (r++l) k=v:=by
   clear h1
   obtain⟨h,hr⟩:=h
   induction r with
   |nil=>exact h
   |cons q r ih=>
    obtain⟨j,u⟩:=q
    rw[List.cons_append,lk_cons]
    split
    · rename_i e
      subst e
      rw[←hr.1,h]
    · exact ih hr.2
  rw[h1]
  exact mk_again h2
theorem fr_cut{n:Nat}{l:Fr}(live:Fr)(h:AllLk l live)(X:Act→Prop)(hx: ∀lr,X (mkd ds n (live++lr))):X (mkd ds n l):=by
 rw[mk_live live h]
 exact hx l
theorem allLk_of{l:Fr}: ∀live:Fr,(live.map fun q=>lk l q.1)=live.map (fun q=>q.2)→AllLk l live
 | [],_=>trivial
 |(k,v)::r,h=>by
  simp only[List.map_cons,List.cons.injEq] at h
  exact⟨h.1,allLk_of r h.2⟩
theorem fk_cut{n:Nat}{l:Fr}(live:Fr)(h:(live.map fun q=>lk l q.1)=live.map (fun q=>q.2))(X:Act→Prop)(hx: ∀lr,X (mkd ds n (live++lr))):X (mkd ds n l):=fr_cut live (allLk_of live h) X hx
theorem lp{P:Program}{Q:Exit→Act→World→Prop}{a:Act}{w:World}{c x:Code}(e:c= .loop x)(I:Nat→Act→World→Prop)(n₀:Nat)(h₀:I n₀ a w)
 (round: ∀n a w,I n a w→x.wp P (Exit.then (fun a' w'=> ∃n',n'<n∧I n' a' w') Q) a w):c.wp P Q a w:=by
 subst e
 exact wp_loop_ghost I n₀ h₀ round
end Go.Proofs.YtcgkoffnknpgjaaGreatDoor
