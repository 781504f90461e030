/-
  Laws of single operations for my walks: wraps, comparisons, indexing, slicing. No program in sight.
-/
import Derived.Test.YtcgkoffnknpgjaaGreatDoorEngx
import Derived.WalkSpells
namespace Go.Proofs.YtcgkoffnknpgjaaGreatDoor
set_option linter.unusedVariables false
set_option linter.unusedSimpArgs false
variable {ds : List Deferred}
theorem HM(k:IntKind)(x:Int)(h0:k.min≤x)(h1:x≤k.max):k.wrap x=x:=by
 cases k<;>simp[IntKind.min,IntKind.max,IntKind.signed,IntKind.bits] at h0 h1<;>simp[IntKind.wrap,IntKind.signed,IntKind.bits]<;>omega
theorem Ri{x z:Int}(h:x=z)(h0: -9223372036854775808≤z)(h1:z≤9223372036854775807):Value.int .i64 (IntKind.wrap .i64 x)=Value.int .i64 z:=by
 subst h;rw[HM .i64 x (by simpa [IntKind.min,IntKind.signed,IntKind.bits] using h0) (by simpa [IntKind.max,IntKind.signed,IntKind.bits] using h1)]
theorem lW{x z:Int}(h:x=z)(h0:0≤z)(h1:z≤18446744073709551615):Value.int .u64 (IntKind.wrap .u64 x)=Value.int .u64 z:=by
 subst h;rw[HM .u64 x (by simpa [IntKind.min,IntKind.signed,IntKind.bits] using h0) (by simpa [IntKind.max,IntKind.signed,IntKind.bits] using h1)]
theorem XD{x z:Int}(h:x=z)(h0:0≤z)(h1:z≤4294967295):Value.int .u32 (IntKind.wrap .u32 x)=Value.int .u32 z:=by
 subst h;rw[HM .u32 x (by simpa [IntKind.min,IntKind.signed,IntKind.bits] using h0) (by simpa [IntKind.max,IntKind.signed,IntKind.bits] using h1)]
theorem sN{x z:Int}(h:x=z)(h0:0≤z)(h1:z≤255):Value.int .u8 (IntKind.wrap .u8 x)=Value.int .u8 z:=by
 subst h;rw[HM .u8 x (by simpa [IntKind.min,IntKind.signed,IntKind.bits] using h0) (by simpa [IntKind.max,IntKind.signed,IntKind.bits] using h1)]
theorem BE{k:IntKind}{x z:Int}(h:x=z):Value.int k x=Value.int k z:=by rw[h]
theorem sO{p:Prop}[Decidable p](h:p):Value.bool (decide p)=Value.bool true:=by rw[decide_eq_true h]
theorem sQ{p:Prop}[Decidable p](h: ¬p):Value.bool (decide p)=Value.bool false:=by rw[decide_eq_false h]
theorem sR{x y:Int}(h:x=y):Value.bool (x==y)=Value.bool true:=by rw[h];simp
theorem sS{x y:Int}(h:x≠y):Value.bool (x==y)=Value.bool false:=by simp[h]
theorem sT{x y:Int}(h:x≠y):Value.bool (x != y)=Value.bool true:=by simp[h]
theorem sU{x y:Int}(h:x=y):Value.bool (x != y)=Value.bool false:=by rw[h];simp
theorem Rj{x y:Bool}(h:x=y):Value.bool x=Value.bool y:=by rw[h]
section
variable {P : Program} {n : Nat} {l : Fr} {o : Oper}
theorem CZ(b off k:Nat):(⟨b,off,none⟩:Addr).add k=⟨b,off+k,none⟩:=by
 unfold Addr.add
 split
 · rename_i h;subst h;rfl
 · rfl
theorem AA{t len e:Nat}{x i:Operand}(ho:o.op= .indexAddr t x i)(ht:P.underlying t=some (.array len e))(sz:Nat)(hs:(P.info? e).map (·.size)=some sz){b off:Nat}{z:Int}(k:Nat)
 (hx:fe n l x= .pointer (some ⟨b,off,none⟩))(hi:fe n l i= .int .i64 z)(hz:z=(k:Int))(hk:k<len)(off':Nat)(he:off+k*sz=off')(w:World):
  (execOp (fe n l) o).run P w= .ok (.value (.pointer (some ⟨b,off',none⟩))) w:=by
 subst hz
 subst he
 cases hq:P.info? e with
 |none=>simp[hq] at hs
 |some inf=>
  have hs':inf.size=sz:=by simpa [hq] using hs
  have hk': ¬len≤k:=by omega
  simp[execOp,ho,hx,hi,Instr.indexAt,asIntOf,run_underlying ht,Instr.sureAddr,sizeOf,typeInfo,hq,hs',hk,hk',CZ]
theorem I6{t e len cap:Nat}{x i:Operand}(ho:o.op= .indexAddr t x i)(ht:P.underlying t=some (.slice e))(sz:Nat)(hs:(P.info? e).map (·.size)=some sz){b off:Nat}{z:Int}(k:Nat)
 (hx:fe n l x= .slice (some ⟨b,off,none⟩) len cap)(hi:fe n l i= .int .i64 z)(hz:z=(k:Int))(hk:k<len)(off':Nat)(he:off+k*sz=off')(w:World):
  (execOp (fe n l) o).run P w= .ok (.value (.pointer (some ⟨b,off',none⟩))) w:=by
 subst hz
 subst he
 cases hq:P.info? e with
 |none=>simp[hq] at hs
 |some inf=>
  have hs':inf.size=sz:=by simpa [hq] using hs
  have hk': ¬len≤k:=by omega
  simp[execOp,ho,hx,hi,Instr.indexAt,asIntOf,run_underlying ht,sizeOf,typeInfo,hq,hs',hk,hk',CZ]
theorem Cz{t e m:Nat}{x:Operand}{lo hi:Option Operand}(ho:o.op= .slice t x lo hi none)(ht:P.underlying t=some (.array m e))(sz:Nat)(hs:(P.info? e).map (·.size)=some sz){b off:Nat}(zl zh:Int)(kl kh:Nat)
 (hx:fe n l x= .pointer (some ⟨b,off,none⟩))(hlo:match lo with |some q=>fe n l q= .int .i64 zl|none=>zl=0)(hhi:match hi with |some q=>fe n l q= .int .i64 zh|none=>zh=(m:Int))
 (hl:zl=(kl:Int))(hh:zh=(kh:Int))(h1:kl≤kh)(h2:kh≤m)(off':Nat)(he:(if m=kl then off else off+kl*sz)=off')(len cap:Nat)(hlen:kh-kl=len)(hcap:m-kl=cap)(w:World):
  (execOp (fe n l) o).run P w= .ok (.value (.slice (some ⟨b,off',none⟩) len cap)) w:=by
 subst hl;subst hh;subst he;subst hlen;subst hcap
 cases hq:P.info? e with
 |none=>simp[hq] at hs
 |some inf=>
  have hs':inf.size=sz:=by simpa [hq] using hs
  have a1: ¬kh<kl:=by omega
  have a2: ¬m<kh:=by omega
  cases lo with
  |none=>
   have:kl=0:=by simpa using hlo
   subst this
   cases hi with
   |none=>
    have:kh=m:=by simp at hhi;omega
    subst this
    by_cases hm:kh=0
    · simp[execOp,ho,hx,Instr.sliceAt,run_underlying ht,Instr.sureAddr,Instr.sliceBounds,sizeOf,typeInfo,hq,hs',hm]
    · simp[execOp,ho,hx,Instr.sliceAt,run_underlying ht,Instr.sureAddr,Instr.sliceBounds,sizeOf,typeInfo,hq,hs',hm,CZ]
   |some qh=>
    simp only at hhi
    by_cases hm:m=0
    · simp[execOp,ho,hx,hhi,Instr.sliceAt,run_underlying ht,Instr.sureAddr,Instr.sliceBounds,Instr.sliceBound,asIntOf,sizeOf,typeInfo,hq,hs',h2,a2,hm]
      have:kh=0:=by omega
      simp[this]
    · simp[execOp,ho,hx,hhi,Instr.sliceAt,run_underlying ht,Instr.sureAddr,Instr.sliceBounds,Instr.sliceBound,asIntOf,sizeOf,typeInfo,hq,hs',h2,a2,hm,CZ]
  |some ql=>
   simp only at hlo
   cases hi with
   |none=>
    have:kh=m:=by simp at hhi;omega
    subst this
    by_cases hm:kh=kl
    · simp[execOp,ho,hx,hlo,Instr.sliceAt,run_underlying ht,Instr.sureAddr,Instr.sliceBounds,Instr.sliceBound,asIntOf,sizeOf,typeInfo,hq,hs',hm]
    · simp[execOp,ho,hx,hlo,Instr.sliceAt,run_underlying ht,Instr.sureAddr,Instr.sliceBounds,Instr.sliceBound,asIntOf,sizeOf,typeInfo,hq,hs',h1,a1,hm,CZ]
   |some qh=>
    simp only at hhi
    by_cases hm:m=kl
    · have:kh=kl:=by omega
      subst this
      simp[execOp,ho,hx,hlo,hhi,Instr.sliceAt,run_underlying ht,Instr.sureAddr,Instr.sliceBounds,Instr.sliceBound,asIntOf,sizeOf,typeInfo,hq,hs',h2,a2,hm]
    · simp[execOp,ho,hx,hlo,hhi,Instr.sliceAt,run_underlying ht,Instr.sureAddr,Instr.sliceBounds,Instr.sliceBound,asIntOf,sizeOf,typeInfo,hq,hs',h1,h2,a1,a2,hm,CZ]
theorem PG{t e m c:Nat}{x:Operand}{lo hi:Option Operand}(ho:o.op= .slice t x lo hi none)(ht:P.underlying t=some (.slice e))(sz:Nat)(hs:(P.info? e).map (·.size)=some sz){b off:Nat}(zl zh:Int)(kl kh:Nat)
 (hx:fe n l x= .slice (some ⟨b,off,none⟩) m c)(hlo:match lo with |some q=>fe n l q= .int .i64 zl|none=>zl=0)(hhi:match hi with |some q=>fe n l q= .int .i64 zh|none=>zh=(m:Int))
 (hl:zl=(kl:Int))(hh:zh=(kh:Int))(h1:kl≤kh)(h2:kh≤c)(off':Nat)(he:(if c=kl then off else off+kl*sz)=off')(len cap:Nat)(hlen:kh-kl=len)(hcap:c-kl=cap)(w:World):
  (execOp (fe n l) o).run P w= .ok (.value (.slice (some ⟨b,off',none⟩) len cap)) w:=by
 subst hl;subst hh;subst he;subst hlen;subst hcap
 cases hq:P.info? e with
 |none=>simp[hq] at hs
 |some inf=>
  have hs':inf.size=sz:=by simpa [hq] using hs
  have a1: ¬kh<kl:=by omega
  have a2: ¬c<kh:=by omega
  cases lo with
  |none=>
   have:kl=0:=by simpa using hlo
   subst this
   cases hi with
   |none=>
    have:kh=m:=by simp at hhi;omega
    subst this
    by_cases hm:c=0
    · simp[execOp,ho,hx,Instr.sliceAt,Instr.slice,run_underlying ht,Instr.sliceBounds,sizeOf,typeInfo,hq,hs',hm]
    · simp[execOp,ho,hx,Instr.sliceAt,Instr.slice,run_underlying ht,Instr.sliceBounds,sizeOf,typeInfo,hq,hs',hm,CZ]
   |some qh=>
    simp only at hhi
    by_cases hm:c=0
    · have:kh=0:=by omega
      subst this
      simp[execOp,ho,hx,hhi,Instr.sliceAt,Instr.slice,run_underlying ht,Instr.sliceBounds,Instr.sliceBound,asIntOf,sizeOf,typeInfo,hq,hs',hm]
    · simp[execOp,ho,hx,hhi,Instr.sliceAt,Instr.slice,run_underlying ht,Instr.sliceBounds,Instr.sliceBound,asIntOf,sizeOf,typeInfo,hq,hs',h2,a2,hm,CZ]
  |some ql=>
   simp only at hlo
   cases hi with
   |none=>
    have:kh=m:=by simp at hhi;omega
    subst this
    by_cases hm:c=kl
    · have:kh=kl:=by omega
      subst this
      simp[execOp,ho,hx,hlo,Instr.sliceAt,Instr.slice,run_underlying ht,Instr.sliceBounds,Instr.sliceBound,asIntOf,sizeOf,typeInfo,hq,hs',hm]
    · simp[execOp,ho,hx,hlo,Instr.sliceAt,Instr.slice,run_underlying ht,Instr.sliceBounds,Instr.sliceBound,asIntOf,sizeOf,typeInfo,hq,hs',h1,a1,hm,CZ]
   |some qh=>
    simp only at hhi
    by_cases hm:c=kl
    · have:kh=kl:=by omega
      subst this
      simp[execOp,ho,hx,hlo,hhi,Instr.sliceAt,Instr.slice,run_underlying ht,Instr.sliceBounds,Instr.sliceBound,asIntOf,sizeOf,typeInfo,hq,hs',h2,a2,hm]
    · simp[execOp,ho,hx,hlo,hhi,Instr.sliceAt,Instr.slice,run_underlying ht,Instr.sliceBounds,Instr.sliceBound,asIntOf,sizeOf,typeInfo,hq,hs',h1,h2,a1,a2,hm,CZ]
end
theorem sW{c:Prop}[Decidable c]{a b b':Nat}(h:b=b'):(if c then a else b)=(if c then a else b'):=by rw[h]
def sX{α:Type}(p:α→Prop):List α→Prop
 | []=>True
 |x::r=>p x∧sX p r
theorem G5{α:Type}{p:α→Prop}: ∀ {l:List α},sX p l→ ∀q∈l,p q
 | [],_,q,hq=>by cases hq
 |_::_,h,q,hq=>by
  rcases List.mem_cons.1 hq with rfl |hq
  · exact h.1
  · exact G5 h.2 q hq
def PH(l:Fr):Fr→Prop
 | []=>True
 |(k,v)::r=>lk l k=v∧PH l r
theorem HN{n:Nat}{l:Fr}: ∀(live:Fr),PH l live→Ad ds n l=Ad ds n (live++l)
 | [],_=>rfl
 |(k,v)::r,h=>by
  have h1:=HN (n:=n) r h.2
  have h2:lk (r++l) k=v:=by
   clear h1
   obtain⟨h,hr⟩:=h
   induction r with
   |nil=>exact h
   |cons q r ih=>
    obtain⟨j,u⟩:=q
    rw[List.cons_append,HK]
    split
    · rename_i e
      subst e
      rw[←hr.1,h]
    · exact ih hr.2
  rw[h1]
  exact W8 h2
theorem lX{n:Nat}{l:Fr}(live:Fr)(h:PH l live)(X:Act→Prop)(hx: ∀lr,X (Ad ds n (live++lr))):X (Ad ds n l):=by
 rw[HN live h]
 exact hx l
theorem PI{l:Fr}: ∀live:Fr,(live.map fun q=>lk l q.1)=live.map (fun q=>q.2)→PH l live
 | [],_=>trivial
 |(k,v)::r,h=>by
  simp only[List.map_cons,List.cons.injEq] at h
  exact⟨h.1,PI r h.2⟩
theorem lY{n:Nat}{l:Fr}(live:Fr)(h:(live.map fun q=>lk l q.1)=live.map (fun q=>q.2))(X:Act→Prop)(hx: ∀lr,X (Ad ds n (live++lr))):X (Ad ds n l):=lX live (PI live h) X hx
theorem lp{P:Program}{Q:Exit→Act→World→Prop}{a:Act}{w:World}{c x:Code}(e:c= .loop x)(I:Nat→Act→World→Prop)(n₀:Nat)(h₀:I n₀ a w)
 (round: ∀n a w,I n a w→x.wp P (Exit.then (fun a' w'=> ∃n',n'<n∧I n' a' w') Q) a w):c.wp P Q a w:=by
 subst e
 exact wp_loop_ghost I n₀ h₀ round
end Go.Proofs.YtcgkoffnknpgjaaGreatDoor
