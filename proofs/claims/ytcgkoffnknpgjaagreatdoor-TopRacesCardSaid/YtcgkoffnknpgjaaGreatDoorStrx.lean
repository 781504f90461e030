/-
  Strings and bytes; slices that are only read; made slices; unrolled loops; the parts of strings.Builder. No program in sight.
-/
import Derived.Test.YtcgkoffnknpgjaaGreatDoorRfx
import Derived.Test.YtcgkoffnknpgjaaGreatDoorLstx
import Derived.Laws.BytesString
import Derived.Laws.Concat
import Derived.Laws.MakeOwn
import Derived.Laws.Externs
import Derived.Lib.AppendZeros
import Derived.Lib.Builder
import Derived.Lib.UnsafeStr
namespace Go.Proofs.YtcgkoffnknpgjaaGreatDoor
set_option linter.unusedVariables false
set_option linter.unusedSimpArgs false
variable {ds : List Deferred}
abbrev St(l:List UInt8):ByteArray:=⟨l.toArray⟩
theorem Ro(l:List UInt8):((St l).size:Int)=(l.length:Int):=by
 show (l.toArray.size:Int)=_
 simp
def eI(z:Int):List Value:= [.int .i64 z]
theorem Co:Enc 1 eI:=⟨fun _=>rfl,fun x v hv=>by simp[eI] at hv;subst hv;rfl⟩
section
variable {P : Program} {Q : Exit → Act → World → Prop} {g w : World} {L : List AB} {n : Nat} {l : Fr} {o : Oper} {N : Act → World → Prop}
theorem G7{t:Nat}{x i:Operand}{k:IntKind}{s:List UInt8}{z:Int}{b:UInt8}(ho:o.op= .index t x i)(ht:P.underlying t=some .string)(hx:fe n l x= .string (St s))(hi:fe n l i= .int k z)(j:Nat)(hz:z=(j:Int))(hb:s[j]? =some b)(w:World):
  (execOp (fe n l) o).run P w= .ok (.value (.int .u8 (b.toNat:Int))) w:=by
 subst hz
 have h0:(0:Int)≤(j:Int):=by omega
 have hj:=(List.getElem?_eq_some_iff.1 hb).1
 have hg:(St s)[j]? =some b:=by
  have:j<(St s).size:=by show j<s.toArray.size;simpa using hj
  rw[getElem?_pos (St s) j this]
  have:=(List.getElem?_eq_some_iff.1 hb).2
  show some (s.toArray[j]'(by simpa using hj))=_
  simp[this]
 simp[execOp,ho,hx,hi,Instr.index,asIntOf,run_underlying ht,h0,hg]
theorem DI{t:Nat}{x y:Operand}{a b:List UInt8}(ho:o.op= .binOp .eql t x y t)(hx:fe n l x= .string (St a))(hy:fe n l y= .string (St b))(r:Bool)(h:decide (a=b)=r)(w:World):
  (execOp (fe n l) o).run P w= .ok (.value (.bool r)) w:=by
 subst h
 have:(a==b)=decide (a=b):=by by_cases e:a=b<;>simp[e]
 simp[execOp,ho,hx,hy,go_sem,this]
theorem GW{t:Nat}{x y:Operand}{a b:List UInt8}(ho:o.op= .binOp .neq t x y t)(hx:fe n l x= .string (St a))(hy:fe n l y= .string (St b))(r:Bool)(h:decide (a=b)= !r)(w:World):
  (execOp (fe n l) o).run P w= .ok (.value (.bool r)) w:=by
 have:(a==b)= !r:=by rw[←h];by_cases e:a=b<;>simp[e]
 simp[execOp,ho,hx,hy,go_sem,this]
def Un(r:Option Nat)(P:Program)(x:Code)(Q:Exit→Act→World→Prop):Nat→Act→World→Prop
 |0,_,_=>False
 |k+1,a,w=>WP r P x (Exit.then (Un r P x Q k) Q) a w
theorem NJ{r:Option Nat}{x c:Code}{a:Act}(k:Nat)(e:c= .loop x)(h:Un r P x Q k a w):WP r P c Q a w:=by
 refine XK e (fun k a w=>Un r P x Q k a w) k h fun k a w hk=> ?_
 cases k with
 |zero=>exact hk.elim
 |succ k=>
  refine WP.mono hk fun e a w h=> ?_
  cases e with
  |normal=>exact⟨k,Nat.lt_succ_self _,h⟩
  |_=>exact h
end
def Vw(e sz:Nat)(p:Option Addr)(n c:Nat)(cs:List Value):AB:=fun h=>
 cs.length=n*sz∧n≤c∧c≤9223372036854775807∧(p=none→c=0)∧((n=0∧cs= [])∨ ∃b off cur,p=some ⟨b,off,none⟩∧Cl b cur e h∧ ∀k v,cs[k]? =some v→cur[off+k]? =some v)
section
variable {g w : World} {L : List AB} {e sz : Nat} {p : Option Addr} {n c : Nat} {cs : List Value}
theorem kG(h:sat g w (Sl e sz p n c cs::L)):sat g w (Vw e sz p n c cs::L):=
 AI h fun hp hh=>by
  refine⟨hh.1,?_⟩
  rcases hh.2 with ⟨rfl,rfl,rfl⟩|⟨b,cur,rfl,h2,h3,h4,h5,h6⟩
  · exact⟨Nat.le_refl _,Nat.zero_le _,fun _=>rfl,.inl ⟨rfl,List.eq_nil_of_length_eq_zero (by rw[hh.1,Nat.zero_mul])⟩⟩
  · refine⟨h3,by unfold maxLen at h4;omega,fun h=>(by cases h),.inr ⟨b,0,cur,rfl,h2,fun k v hk=> ?_⟩⟩
    rw[Nat.zero_add]
    rw[←h6,List.getElem?_take] at hk
    split at hk
    · exact hk
    · cases hk
theorem kH(h:sat g w (Vw e sz p n c cs::L)):n≤c∧c≤9223372036854775807:=Js h fun _ hh=>⟨hh.2.1,hh.2.2.1⟩
theorem mB(e sz:Nat)(h:sat g w L):sat g w (Vw e sz none 0 0 []::L):=kG (CP e sz h)
theorem XO(e sz c:Nat):Gv (Vw e sz p n c cs) p n cs:=by
 intro h ha
 rcases ha.2.2.2.2 with h1|⟨b,off,cur,rfl,h2,h3⟩
 · exact .inl h1
 · exact .inr ⟨b,off,rfl,fun w hw k v hk=>PK h2 hw (h3 k v hk)⟩
theorem cL{b off off':Nat}{q:Option Addr}(i:Nat)(hp:p=some ⟨b,off,none⟩)(hi:i≤n)(ho:(if c=i then off else off+i*sz)=off')(hq:q=some ⟨b,off',none⟩)(h:sat g w (Vw e sz p n c cs::L)):sat g w (Vw e sz q (n-i) (c-i) (cs.drop (i*sz))::L):=
 AI h fun hp' hh=>by
  subst hq
  obtain⟨h1,h2,h3,h4,h5⟩:=hh
  refine⟨by rw[List.length_drop,h1,Nat.sub_mul],by omega,by omega,fun h=>(by cases h),?_⟩
  rcases h5 with ⟨h6,h7⟩|⟨b',o',cur,h6,h7,h8⟩
  · exact .inl ⟨by omega,by rw[h7];simp⟩
  · rw[hp] at h6
    simp only[Option.some.injEq,Addr.mk.injEq,and_true] at h6
    obtain⟨rfl,rfl⟩:=h6
    by_cases hc:c=i
    · refine .inl ⟨by omega,List.drop_eq_nil_of_le ?_⟩
      rw[h1]
      exact Nat.mul_le_mul_right _ om
    · rw[if_neg hc] at ho
      subst ho
      refine .inr ⟨b,_,cur,rfl,h7,fun k v hk=> ?_⟩
      rw[List.getElem?_drop] at hk
      rw[show off+i*sz+k=off+(i*sz+k) from by omega]
      exact h8 _ _ hk
end
section
variable {P : Program} {n : Nat} {l : Fr} {o : Oper}
theorem Ey{t e m c:Nat}{x y:Operand}{p:Option Addr}{a:Addr}(ho:o.op= .binOp .eql t x y t)(ht:P.underlying t=some (.slice e))(hx:fe n l x= .slice p m c)(hp:p=some a)(hy:fe n l y= .slice none 0 0)(w:World):
  (execOp (fe n l) o).run P w= .ok (.value (.bool false)) w:=by
 subst hp
 have hg:eqGuard .eql t x y (.slice (some a) m c) (.slice none 0 0)=pure ():=rfl
 have h1:(binOp .eql t (.slice (some a) m c) (.slice none 0 0)).run P w= .ok (.bool false) w:=by
  have h: ∀d:Nat,(Op.equalIn (d+1) t (.slice (some a) m c) (.slice none 0 0)).run P w= .ok false w:=fun d=>by simp[Op.equalIn,run_underlying ht]
  simp only[binOp]
  simp[Op.equal,Op.maxDepth,h 9999]
 simp[execOp,ho,hx,hy,hg,h1]
end
end Go.Proofs.YtcgkoffnknpgjaaGreatDoor
