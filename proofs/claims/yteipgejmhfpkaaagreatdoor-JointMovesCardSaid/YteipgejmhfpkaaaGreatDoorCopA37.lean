/- Part 38: contracts of what the law calls. -/
import Derived.Test.YteipgejmhfpkaaaGreatDoorCopA36
set_option maxRecDepth 1000000
set_option maxHeartbeats 16000000
set_option linter.unusedSimpArgs false
set_option linter.unusedVariables false
namespace Go.Proofs.YteipgejmhfpkaaaGreatDoor.Cop
section
open Go.RowKit Go.Shelf Go.Sort Go.Lib
attribute [local go_sem] Oper.semAt_some

end
section
open Go.RowKit Go.Shelf Go.Sort Go.Lib

end
end Go.Proofs.YteipgejmhfpkaaaGreatDoor.Cop
