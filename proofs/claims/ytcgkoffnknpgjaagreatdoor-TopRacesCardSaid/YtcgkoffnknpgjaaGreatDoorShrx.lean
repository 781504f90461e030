/-
  Shorter forms of the engine's rules: the places of the code are read from the goal. No program in sight.
-/
import Derived.Test.YtcgkoffnknpgjaaGreatDoorRf2x
namespace Go.Proofs.YtcgkoffnknpgjaaGreatDoor
set_option linter.unusedVariables false
set_option linter.unusedSimpArgs false
abbrev iV(z:Int):Value:= .int .i64 z
abbrev uV(z:Int):Value:= .int .u32 z
abbrev yV(z:Int):Value:= .int .u8 z
abbrev pV(b:Nat):Value:= .pointer (some ⟨b,0,none⟩)
def XP(f:Func)(p:List Nat):Bool:=match CA f p with | .seq _ _=>true|_=>false
def XQ(f:Func)(p is:List Nat):Bool:=match CA f p with | .region _ ops false=>Bi ops&&(List.range ops.size==is)|_=>false
def MF(f:Func)(p:List Nat)(n:Nat)(l:Fr)(b:Bool):Bool:=match CA f p with | .cond x _ _=>(match fe n l x with | .bool c=>c==b|_=>false)|_=>false
theorem cM(p q:List Nat): ∀c:Code,lV c (p++q)=lV (lV c p) q:=by
 induction p with
 |nil=>intro c;cases q<;>rfl
 |cons i p ih=>
  intro c
  rcases c with _|_|_|_|_|_|_|_|_|_<;>rcases i with _|_|i<;>simp[lV,ih]
theorem J6(f:Func)(p q:List Nat):CA f (p++q)=lV (CA f p) q:=cM p q _
section
variable {r : Option Nat} {P : Program} {Q : Exit → Act → World → Prop} {a : Act} {w : World} {f : Func} {p : List Nat} {ds : List Deferred} {n : Nat} {l : Fr}
theorem zSq(e:XP f p=true)(h:WP r P (CA f (p++ [0])) (Exit.then (WP r P (CA f (p++ [1])) Q) Q) a w):WP r P (CA f p) Q a w:=by
 rw[J6,J6] at h
 unfold XP at e
 split at e
 · rename_i x y e1
   rw[e1] at h ⊢
   exact Rm rfl h
 · cases e
theorem zPl(is:List Nat)(e:XQ f p is=true)(h:PO P (RA f p) Q is (Ad ds n l) w):WP r P (CA f p) Q (Ad ds n l) w:=by
 unfold XQ at e
 unfold RA at h
 split at e
 · rename_i i ops e1
   rw[e1] at h ⊢
   simp only[Bool.and_eq_true,beq_iff_eq] at e
   exact XI is rfl e.1 e.2 h
 · cases e
theorem zCt(e:MF f p n l true=true)(h:WP r P (CA f (p++ [0])) Q (Ad ds n l) w):WP r P (CA f p) Q (Ad ds n l) w:=by
 rw[J6] at h
 unfold MF at e
 split at e
 · rename_i x s t e1
   rw[e1] at h ⊢
   split at e
   · rename_i c e2
     obtain rfl:c=true:=by simpa using e
     exact NH (s:=s) (t:=t) true rfl e2 h
   · cases e
 · cases e
theorem zCf(e:MF f p n l false=true)(h:WP r P (CA f (p++ [1])) Q (Ad ds n l) w):WP r P (CA f p) Q (Ad ds n l) w:=by
 rw[J6] at h
 unfold MF at e
 split at e
 · rename_i x s t e1
   rw[e1] at h ⊢
   split at e
   · rename_i c e2
     obtain rfl:c=false:=by simpa using e
     exact NH (s:=s) (t:=t) false rfl e2 h
   · cases e
 · cases e
end
section
variable {P : Program} {ops : Array Oper} {Q : Exit → Act → World → Prop} {ds : List Deferred} {n : Nat} {l : Fr} {w : World} {rest : List Nat}
abbrev tA(is:List Nat):List Ent:=is.map fun i=>⟨i,[],none⟩
theorem tB(is:List Nat):(tA is).map (·.i)=is:=by induction is<;>simp_all [tA]
theorem zB0(rest is:List Nat)(hd:Fr)(h:E5 P ops n l (tA is)=some (hd++l,[],[]))(hr:PO P ops Q rest (Ad ds n (hd++l)) w):PO P ops Q (is++rest) (Ad ds n l) w:=by
 have h1:=EY (tA is) (ds:=ds) h trivial (Bb _) hr
 rwa [tB] at h1
theorem zBb(rest:List Nat)(hd:Fr)(b:List Ent)(pts:List Pt)(eqs:List (Value×Value))(h:E5 P ops n l b=some (hd++l,pts,eqs))(he:G3 eqs)(hc:BV w pts)(hr:PO P ops Q rest (Ad ds n (hd++l)) w):PO P ops Q (b.map (·.i)++rest) (Ad ds n l) w:=EY b h he hc hr
end
section
variable {P : Program} {Q : Exit → Act → World → Prop} {g w : World} {n : Nat} {l : Fr} {o : Oper} {ds : List Deferred} {N : Act → World → Prop}
end
end Go.Proofs.YtcgkoffnknpgjaaGreatDoor
