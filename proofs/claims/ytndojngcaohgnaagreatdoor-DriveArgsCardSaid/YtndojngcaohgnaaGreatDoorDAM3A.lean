/- Calls of stage 3. -/
import Derived.Test.YtndojngcaohgnaaGreatDoorDAT2
set_option linter.unusedVariables false
set_option linter.unusedSectionVars false
set_option linter.unusedSimpArgs false
set_option linter.unnecessarySimpa false
namespace Go.Proofs.YtndojngcaohgnaaGreatDoor
open Go Go.Ev
theorem q141 : Known 8 x141 y141 := knownT all2 (n := 399) (by kernel_rfl)
theorem q480 : Known 30 x480 y480 := knownT all2 (n := 399) (by kernel_rfl)
theorem q828 : Known 120 x828 y828 := knownT all2 (n := 399) (by kernel_rfl)
end Go.Proofs.YtndojngcaohgnaaGreatDoor
