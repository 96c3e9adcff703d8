/- Calls of stage 1. -/
import Derived.Test.YtndojngcaohgnaaGreatDoorDKVA
set_option linter.unusedVariables false
set_option linter.unusedSectionVars false
set_option linter.unusedSimpArgs false
set_option linter.unnecessarySimpa false
namespace Go.Proofs.YtndojngcaohgnaaGreatDoor
open Go Go.Ev
theorem q2728 : Known 61 x2728 y2728 := knownT all0 (n := 399) (by kernel_rfl)
theorem q2750 : Known 33 x2750 y2750 := knownT all0 (n := 399) (by kernel_rfl)
theorem q3179 : Known 44 x3179 y3179 := knownT all0 (n := 399) (by kernel_rfl)
theorem q3372 : Known 33 x3372 y3372 := knownT all0 (n := 399) (by kernel_rfl)
end Go.Proofs.YtndojngcaohgnaaGreatDoor
