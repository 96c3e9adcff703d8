/- Calls of stage 2. -/
import Derived.Test.YtndojngcaohgnaaGreatDoorDPT1
set_option linter.unusedVariables false
set_option linter.unusedSectionVars false
set_option linter.unusedSimpArgs false
set_option linter.unnecessarySimpa false
namespace Go.Proofs.YtndojngcaohgnaaGreatDoor
open Go Go.Ev
theorem q5133 : Known 44 x5133 y5133 := knownT all1 (n := 399) (by kernel_rfl)
theorem q5243 : Known 61 x5243 y5243 := knownT all1 (n := 399) (by kernel_rfl)
theorem q5247 : Known 152 x5247 y5247 := knownT all1 (n := 399) (by kernel_rfl)
theorem q5267 : Known 22 x5267 y5267 := knownT all1 (n := 399) (by kernel_rfl)
end Go.Proofs.YtndojngcaohgnaaGreatDoor
