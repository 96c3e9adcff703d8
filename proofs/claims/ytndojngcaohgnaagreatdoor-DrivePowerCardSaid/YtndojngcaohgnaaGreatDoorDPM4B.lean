/- Calls of stage 4. -/
import Derived.Test.YtndojngcaohgnaaGreatDoorDPT3
set_option linter.unusedVariables false
set_option linter.unusedSectionVars false
set_option linter.unusedSimpArgs false
set_option linter.unnecessarySimpa false
namespace Go.Proofs.YtndojngcaohgnaaGreatDoor
open Go Go.Ev
theorem q3251 : Known 30 x3251 y3251 := knownT all3 (n := 399) (by kernel_rfl)
theorem q3274 : Known 35 x3274 y3274 := knownT all3 (n := 399) (by kernel_rfl)
theorem q3734 : Known 30 x3734 y3734 := knownT all3 (n := 399) (by kernel_rfl)
theorem q3757 : Known 35 x3757 y3757 := knownT all3 (n := 399) (by kernel_rfl)
theorem q4221 : Known 30 x4221 y4221 := knownT all3 (n := 399) (by kernel_rfl)
theorem q4244 : Known 35 x4244 y4244 := knownT all3 (n := 399) (by kernel_rfl)
theorem q4705 : Known 30 x4705 y4705 := knownT all3 (n := 399) (by kernel_rfl)
theorem q4728 : Known 35 x4728 y4728 := knownT all3 (n := 399) (by kernel_rfl)
end Go.Proofs.YtndojngcaohgnaaGreatDoor
