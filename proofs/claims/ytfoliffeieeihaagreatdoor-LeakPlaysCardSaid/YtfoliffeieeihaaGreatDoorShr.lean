/-
  Shorter forms of the engine's rules: the places of the code are read from the goal. No program in sight.
-/
import Derived.Test.YtfoliffeieeihaaGreatDoorRf2
namespace Go.Proofs.YtfoliffeieeihaaGreatDoor
abbrev iV (z : Int) : Value := .int .i64 z
abbrev uV (z : Int) : Value := .int .u32 z
abbrev yV (z : Int) : Value := .int .u8 z
abbrev pV (b : Nat) : Value := .pointer (some ⟨b, 0, none⟩)
section
variable {r : Option Nat} {P : Program} {Q : Exit → Act → World → Prop} {a : Act} {w : World} {f : Func} {p : List Nat} {ds : List Deferred} {n : Nat} {l : Fr}
end
section
variable {P : Program} {ops : Array Oper} {Q : Exit → Act → World → Prop} {ds : List Deferred} {n : Nat} {l : Fr} {w : World} {rest : List Nat}
end
section
variable {P : Program} {Q : Exit → Act → World → Prop} {g w : World} {n : Nat} {l : Fr} {o : Oper} {ds : List Deferred} {N : Act → World → Prop}
end
end Go.Proofs.YtfoliffeieeihaaGreatDoor
