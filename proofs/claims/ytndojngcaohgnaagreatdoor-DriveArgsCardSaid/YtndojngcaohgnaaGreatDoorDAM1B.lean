/- Calls of stage 1. -/
import Derived.Test.YtndojngcaohgnaaGreatDoorDAVA
set_option linter.unusedVariables false
set_option linter.unusedSectionVars false
set_option linter.unusedSimpArgs false
set_option linter.unnecessarySimpa false
namespace Go.Proofs.YtndojngcaohgnaaGreatDoor
open Go Go.Ev
theorem q1024 : Known 25 x1024 y1024 := knownT all0 (n := 399) (by kernel_rfl)
theorem q1281 : Known 61 x1281 y1281 := knownT all0 (n := 399) (by kernel_rfl)
end Go.Proofs.YtndojngcaohgnaaGreatDoor
