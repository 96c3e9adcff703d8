/- Calls of stage 4. -/
import Derived.Test.YtndojngcaohgnaaGreatDoorDPT3
set_option linter.unusedVariables false
set_option linter.unusedSectionVars false
set_option linter.unusedSimpArgs false
set_option linter.unnecessarySimpa false
namespace Go.Proofs.YtndojngcaohgnaaGreatDoor
open Go Go.Ev
theorem q5193 : Known 30 x5193 y5193 := knownT all3 (n := 399) (by kernel_rfl)
theorem q5200 : Known 127 x5200 y5200 := knownT all3 (n := 399) (by kernel_rfl)
theorem q5672 : Known 30 x5672 y5672 := knownT all3 (n := 399) (by kernel_rfl)
theorem q5737 : Known 37 x5737 y5737 := knownT all3 (n := 399) (by kernel_rfl)
theorem q6152 : Known 30 x6152 y6152 := knownT all3 (n := 399) (by kernel_rfl)
theorem q6216 : Known 37 x6216 y6216 := knownT all3 (n := 399) (by kernel_rfl)
theorem q6627 : Known 30 x6627 y6627 := knownT all3 (n := 399) (by kernel_rfl)
end Go.Proofs.YtndojngcaohgnaaGreatDoor
