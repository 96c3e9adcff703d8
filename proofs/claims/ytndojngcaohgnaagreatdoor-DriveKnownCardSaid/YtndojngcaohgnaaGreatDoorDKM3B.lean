/- Calls of stage 3. -/
import Derived.Test.YtndojngcaohgnaaGreatDoorDKT2
set_option linter.unusedVariables false
set_option linter.unusedSectionVars false
set_option linter.unusedSimpArgs false
set_option linter.unnecessarySimpa false
namespace Go.Proofs.YtndojngcaohgnaaGreatDoor
open Go Go.Ev
theorem q1159 : Known 11 x1159 y1159 := knownT all2 (n := 399) (by kernel_rfl)
theorem q1261 : Known 11 x1261 y1261 := knownT all2 (n := 399) (by kernel_rfl)
theorem q1484 : Known 30 x1484 y1484 := knownT all2 (n := 399) (by kernel_rfl)
end Go.Proofs.YtndojngcaohgnaaGreatDoor
