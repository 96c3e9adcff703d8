/- Calls of stage 3. -/
import Derived.Test.YtndojngcaohgnaaGreatDoorDKT2
set_option linter.unusedVariables false
set_option linter.unusedSectionVars false
set_option linter.unusedSimpArgs false
set_option linter.unnecessarySimpa false
namespace Go.Proofs.YtndojngcaohgnaaGreatDoor
open Go Go.Ev
theorem q3008 : Known 11 x3008 y3008 := knownT all2 (n := 399) (by kernel_rfl)
theorem q3444 : Known 11 x3444 y3444 := knownT all2 (n := 399) (by kernel_rfl)
end Go.Proofs.YtndojngcaohgnaaGreatDoor
