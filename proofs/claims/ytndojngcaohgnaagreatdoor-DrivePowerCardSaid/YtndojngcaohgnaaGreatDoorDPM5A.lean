/- Calls of stage 5. -/
import Derived.Test.YtndojngcaohgnaaGreatDoorDPT4
set_option linter.unusedVariables false
set_option linter.unusedSectionVars false
set_option linter.unusedSimpArgs false
set_option linter.unnecessarySimpa false
namespace Go.Proofs.YtndojngcaohgnaaGreatDoor
open Go Go.Ev
theorem q5216 : Known 35 x5216 y5216 := knownT all4 (n := 399) (by kernel_rfl)
theorem q5695 : Known 35 x5695 y5695 := knownT all4 (n := 399) (by kernel_rfl)
theorem q6175 : Known 35 x6175 y6175 := knownT all4 (n := 399) (by kernel_rfl)
theorem q6650 : Known 35 x6650 y6650 := knownT all4 (n := 399) (by kernel_rfl)
end Go.Proofs.YtndojngcaohgnaaGreatDoor
