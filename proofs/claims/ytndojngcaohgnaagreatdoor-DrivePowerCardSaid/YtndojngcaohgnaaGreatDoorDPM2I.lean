/- Calls of stage 2. -/
import Derived.Test.YtndojngcaohgnaaGreatDoorDPT1
set_option linter.unusedVariables false
set_option linter.unusedSectionVars false
set_option linter.unusedSimpArgs false
set_option linter.unnecessarySimpa false
namespace Go.Proofs.YtndojngcaohgnaaGreatDoor
open Go Go.Ev
theorem q5612 : Known 44 x5612 y5612 := knownT all1 (n := 399) (by kernel_rfl)
theorem q5722 : Known 61 x5722 y5722 := knownT all1 (n := 399) (by kernel_rfl)
theorem q5746 : Known 22 x5746 y5746 := knownT all1 (n := 399) (by kernel_rfl)
end Go.Proofs.YtndojngcaohgnaaGreatDoor
