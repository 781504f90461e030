/-
  Ranges over maps (that the rounds leave as they are), and over strings: in whatever order the entries come. No program in sight.
-/
import Derived.Test.YtjjpmehiolejgaaMpg
import Derived.Laws.NewFold
namespace Go.Proofs.Ytjjpmehiolejgaa
variable {ds : List Deferred}
section
variable {α β : Type}
end
section
variable {α β : Type} {kv : α → Value} {ve : β → Value}
variable {P : Program} {Q : Exit → Act → World → Prop} {g w : World} {L : List Assn} {n : Nat} {l : Fr} {o : Oper} {N : Act → World → Prop} {key elem b r : Nat} {E S : List (α × β)} {cur : Option (α × β)}
end
section
variable {α β : Type} {kv : α → Value} {ve : β → Value}
variable {P : Program} {Q : Exit → Act → World → Prop} {g w : World} {L : List Assn} {n : Nat} {l : Fr} {o : Oper} {N : Act → World → Prop} {key elem b r : Nat} {E S : List (α × β)} {cur : Option (α × β)}
end
section
variable {α β : Type} {kv : α → Value} {ve : β → Value}
variable {P : Program} {Q : Exit → Act → World → Prop} {g w : World} {L : List Assn} {n : Nat} {l : Fr} {o : Oper} {N : Act → World → Prop} {key elem b r : Nat} {E S : List (α × β)} {cur : Option (α × β)}
end
end Go.Proofs.Ytjjpmehiolejgaa
