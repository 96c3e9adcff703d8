/- Calls of stage 4. -/
import Derived.Test.YtglpigiakbfcaaaGreatDoorSKT3
set_option linter.unusedVariables false
set_option linter.unusedSectionVars false
set_option linter.unusedSimpArgs false
set_option linter.unnecessarySimpa false
namespace Go.Proofs.YtglpigiakbfcaaaGreatDoor
open Go Go.Ev
theorem q311 : Known 4 x311 y311 := knownT all3 (n := 399) (by kernel_rfl)
theorem q1224 : Known 46 x1224 y1224 := knownT all3 (n := 399) (by kernel_rfl)
theorem q2118 : Known 46 x2118 y2118 := knownT all3 (n := 399) (by kernel_rfl)
end Go.Proofs.YtglpigiakbfcaaaGreatDoor
