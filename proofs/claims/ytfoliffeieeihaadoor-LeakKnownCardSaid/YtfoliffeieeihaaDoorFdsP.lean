/-
  Tables of slots and of files, as plain functions of lists. No program in sight.
-/
import Derived.Test.YtfoliffeieeihaaDoorMap
namespace Go.Proofs.YtfoliffeieeihaaDoor
end Go.Proofs.YtfoliffeieeihaaDoor
