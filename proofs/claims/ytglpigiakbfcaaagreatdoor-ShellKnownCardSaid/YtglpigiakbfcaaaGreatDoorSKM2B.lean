/- Calls of stage 2. -/
import Derived.Test.YtglpigiakbfcaaaGreatDoorSKT1
set_option linter.unusedVariables false
set_option linter.unusedSectionVars false
set_option linter.unusedSimpArgs false
set_option linter.unnecessarySimpa false
namespace Go.Proofs.YtglpigiakbfcaaaGreatDoor
open Go Go.Ev
theorem q2107 : Known 134 x2107 y2107 := knownT all1 (n := 399) (by kernel_rfl)
end Go.Proofs.YtglpigiakbfcaaaGreatDoor
