/- One answer. -/
import Derived.Test.YtcgkoffnknpgjaaGreatDoorProg
import Derived.Test.YtcgkoffnknpgjaaGreatDoorSepx
namespace Go.Proofs.YtcgkoffnknpgjaaGreatDoor
set_option linter.unusedVariables false
set_option linter.unusedSimpArgs false
abbrev HQ(f:FuncId)(a:List Value)(p:List AB)(v0:Value)(K0:List AB):Prop:=HT Tryz.prog f a p fun v K=>v=v0∧K=K0
end Go.Proofs.YtcgkoffnknpgjaaGreatDoor
