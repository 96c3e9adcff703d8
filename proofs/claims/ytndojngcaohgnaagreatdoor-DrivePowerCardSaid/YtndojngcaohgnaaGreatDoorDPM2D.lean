/- Calls of stage 2. -/
import Derived.Test.YtndojngcaohgnaaGreatDoorDPT1
set_option linter.unusedVariables false
set_option linter.unusedSectionVars false
set_option linter.unusedSimpArgs false
set_option linter.unnecessarySimpa false
namespace Go.Proofs.YtndojngcaohgnaaGreatDoor
open Go Go.Ev
theorem q3191 : Known 44 x3191 y3191 := knownT all1 (n := 399) (by kernel_rfl)
theorem q3306 : Known 61 x3306 y3306 := knownT all1 (n := 399) (by kernel_rfl)
theorem q3321 : Known 37 x3321 y3321 := knownT all1 (n := 399) (by kernel_rfl)
end Go.Proofs.YtndojngcaohgnaaGreatDoor
