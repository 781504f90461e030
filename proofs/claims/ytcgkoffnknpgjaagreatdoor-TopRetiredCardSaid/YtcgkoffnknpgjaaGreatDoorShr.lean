/-
  Shorter forms of the engine's rules: the places of the code are read from the goal. No program in sight.
-/
import Derived.Test.YtcgkoffnknpgjaaGreatDoorRf2
namespace Go.Proofs.YtcgkoffnknpgjaaGreatDoor
set_option linter.unusedVariables false
set_option linter.unusedSimpArgs false
abbrev iV(z:Int):Value:= .int .i64 z
abbrev uV(z:Int):Value:= .int .u32 z
abbrev yV(z:Int):Value:= .int .u8 z
abbrev pV(b:Nat):Value:= .pointer (some ⟨b,0,none⟩)
def isSeq(f:Func)(p:List Nat):Bool:=match CA f p with | .seq _ _=>true|_=>false
def isPln(f:Func)(p is:List Nat):Bool:=match CA f p with | .region _ ops false=>noDefer ops&&(List.range ops.size==is)|_=>false
def isCnd(f:Func)(p:List Nat)(n:Nat)(l:Fr)(b:Bool):Bool:=match CA f p with | .cond x _ _=>(match fe n l x with | .bool c=>c==b|_=>false)|_=>false
theorem nav_app(p q:List Nat): ∀c:Code,nav c (p++q)=nav (nav c p) q:=by
 induction p with
 |nil=>intro c;cases q<;>rfl
 |cons i p ih=>
  intro c
  rcases c with _|_|_|_|_|_|_|_|_|_<;>rcases i with _|_|i<;>simp[nav,ih]
theorem ca_app(f:Func)(p q:List Nat):CA f (p++q)=nav (CA f p) q:=nav_app p q _
section
variable {r : Option Nat} {P : Program} {Q : Exit → Act → World → Prop} {a : Act} {w : World} {f : Func} {p : List Nat} {ds : List Deferred} {n : Nat} {l : Fr}
theorem zSq(e:isSeq f p=true)(h:WP r P (CA f (p++ [0])) (Exit.then (WP r P (CA f (p++ [1])) Q) Q) a w):WP r P (CA f p) Q a w:=by
 rw[ca_app,ca_app] at h
 unfold isSeq at e
 split at e
 · rename_i x y e1
   rw[e1] at h ⊢
   exact gi_seq rfl h
 · cases e
theorem zPl(is:List Nat)(e:isPln f p is=true)(h:PO P (RA f p) Q is (mkd ds n l) w):WP r P (CA f p) Q (mkd ds n l) w:=by
 unfold isPln at e
 unfold RA at h
 split at e
 · rename_i i ops e1
   rw[e1] at h ⊢
   simp only[Bool.and_eq_true,beq_iff_eq] at e
   exact gi_pln is rfl e.1 e.2 h
 · cases e
theorem zCt(e:isCnd f p n l true=true)(h:WP r P (CA f (p++ [0])) Q (mkd ds n l) w):WP r P (CA f p) Q (mkd ds n l) w:=by
 rw[ca_app] at h
 unfold isCnd at e
 split at e
 · rename_i x s t e1
   rw[e1] at h ⊢
   split at e
   · rename_i c e2
     obtain rfl:c=true:=by simpa using e
     exact gi_cnd (s:=s) (t:=t) true rfl e2 h
   · cases e
 · cases e
theorem zCf(e:isCnd f p n l false=true)(h:WP r P (CA f (p++ [1])) Q (mkd ds n l) w):WP r P (CA f p) Q (mkd ds n l) w:=by
 rw[ca_app] at h
 unfold isCnd at e
 split at e
 · rename_i x s t e1
   rw[e1] at h ⊢
   split at e
   · rename_i c e2
     obtain rfl:c=false:=by simpa using e
     exact gi_cnd (s:=s) (t:=t) false rfl e2 h
   · cases e
 · cases e
end
section
variable {P : Program} {ops : Array Oper} {Q : Exit → Act → World → Prop} {ds : List Deferred} {n : Nat} {l : Fr} {w : World} {rest : List Nat}
abbrev zEz(is:List Nat):List Ent:=is.map fun i=>⟨i,[],none⟩
theorem zEz_i(is:List Nat):(zEz is).map (·.i)=is:=by induction is<;>simp_all [zEz]
theorem zB0(rest is:List Nat)(hd:Fr)(h:chkB P ops n l (zEz is)=some (hd++l,[],[]))(hr:PO P ops Q rest (mkd ds n (hd++l)) w):PO P ops Q (is++rest) (mkd ds n l) w:=by
 have h1:=plain_batch (zEz is) (ds:=ds) h trivial (AllC_nil _) hr
 rwa [zEz_i] at h1
theorem zBb(rest:List Nat)(hd:Fr)(b:List Ent)(pts:List Pt)(eqs:List (Value×Value))(h:chkB P ops n l b=some (hd++l,pts,eqs))(he:AllE eqs)(hc:AllC w pts)(hr:PO P ops Q rest (mkd ds n (hd++l)) w):PO P ops Q (b.map (·.i)++rest) (mkd ds n l) w:=plain_batch b h he hc hr
end
section
variable {P : Program} {Q : Exit → Act → World → Prop} {g w : World} {n : Nat} {l : Fr} {o : Oper} {ds : List Deferred} {N : Act → World → Prop}
end
end Go.Proofs.YtcgkoffnknpgjaaGreatDoor
