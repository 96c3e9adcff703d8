/- Calls of stage 1. -/
import Derived.Test.YthndchidnkbgiaaGreatDoorDT1
set_option linter.unusedVariables false
set_option linter.unusedSectionVars false
set_option linter.unusedSimpArgs false
set_option linter.unnecessarySimpa false
namespace Go.Proofs.YthndchidnkbgiaaGreatDoor
open Go Go.Ev
theorem q4828 : Known 39 x4828 y4828 := knownT all0 (n := 399) (by kernel_rfl)
theorem q4870 : Known 186 x4870 y4870 := knownT all0 (n := 399) (by kernel_rfl)
theorem q4884 : Known 85 x4884 y4884 := knownT all0 (n := 399) (by kernel_rfl)
theorem q4927 : Known 51 x4927 y4927 := knownT all0 (n := 399) (by kernel_rfl)
theorem q5008 : Known 148 x5008 y5008 := knownT all0 (n := 399) (by kernel_rfl)
end Go.Proofs.YthndchidnkbgiaaGreatDoor
