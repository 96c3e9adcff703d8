/- Calls of stage 1. -/
import Derived.Test.YtglpigiakbfcaaaGreatDoorSKVA
set_option linter.unusedVariables false
set_option linter.unusedSectionVars false
set_option linter.unusedSimpArgs false
set_option linter.unnecessarySimpa false
namespace Go.Proofs.YtglpigiakbfcaaaGreatDoor
open Go Go.Ev
theorem q2072 : Known 80 x2072 y2072 := knownT all0 (n := 399) (by kernel_rfl)
theorem q2395 : Known 80 x2395 y2395 := knownT all0 (n := 399) (by kernel_rfl)
end Go.Proofs.YtglpigiakbfcaaaGreatDoor
