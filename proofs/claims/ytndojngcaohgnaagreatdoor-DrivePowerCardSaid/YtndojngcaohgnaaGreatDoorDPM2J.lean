/- Calls of stage 2. -/
import Derived.Test.YtndojngcaohgnaaGreatDoorDPT1
set_option linter.unusedVariables false
set_option linter.unusedSectionVars false
set_option linter.unusedSimpArgs false
set_option linter.unnecessarySimpa false
namespace Go.Proofs.YtndojngcaohgnaaGreatDoor
open Go Go.Ev
theorem q6092 : Known 44 x6092 y6092 := knownT all1 (n := 399) (by kernel_rfl)
theorem q6201 : Known 61 x6201 y6201 := knownT all1 (n := 399) (by kernel_rfl)
theorem q6225 : Known 22 x6225 y6225 := knownT all1 (n := 399) (by kernel_rfl)
end Go.Proofs.YtndojngcaohgnaaGreatDoor
