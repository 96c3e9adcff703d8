/- Calls of stage 2. -/
import Derived.Test.YtndojngcaohgnaaGreatDoorDPT1
set_option linter.unusedVariables false
set_option linter.unusedSectionVars false
set_option linter.unusedSimpArgs false
set_option linter.unnecessarySimpa false
namespace Go.Proofs.YtndojngcaohgnaaGreatDoor
open Go Go.Ev
theorem q4161 : Known 44 x4161 y4161 := knownT all1 (n := 399) (by kernel_rfl)
theorem q4276 : Known 61 x4276 y4276 := knownT all1 (n := 399) (by kernel_rfl)
theorem q4288 : Known 66 x4288 y4288 := knownT all1 (n := 399) (by kernel_rfl)
theorem q4300 : Known 22 x4300 y4300 := knownT all1 (n := 399) (by kernel_rfl)
theorem q4304 : Known 12 x4304 y4304 := knownT all1 (n := 399) (by kernel_rfl)
end Go.Proofs.YtndojngcaohgnaaGreatDoor
