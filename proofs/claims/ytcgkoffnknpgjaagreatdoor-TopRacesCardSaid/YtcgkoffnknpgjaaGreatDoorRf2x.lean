/-
  Ranges over functions whose assignments make a new variable: the engine's rule. No program in sight.
-/
import Derived.Test.YtcgkoffnknpgjaaGreatDoorRfx
namespace Go.Proofs.YtcgkoffnknpgjaaGreatDoor
set_option linter.unusedVariables false
set_option linter.unusedSimpArgs false
section
variable {P : Program} {Q : Exit → Act → World → Prop} {g w : World} {L : List AB} {c : Code} {ds : List Deferred}
end
end Go.Proofs.YtcgkoffnknpgjaaGreatDoor
