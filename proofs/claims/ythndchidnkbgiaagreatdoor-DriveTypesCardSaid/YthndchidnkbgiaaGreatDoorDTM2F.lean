/- Calls of stage 2. -/
import Derived.Test.YthndchidnkbgiaaGreatDoorDTT1
set_option linter.unusedVariables false
set_option linter.unusedSectionVars false
set_option linter.unusedSimpArgs false
set_option linter.unnecessarySimpa false
namespace Go.Proofs.YthndchidnkbgiaaGreatDoor
open Go Go.Ev
theorem q4846 : Known 47 x4846 y4846 := knownT all1 (n := 399) (by kernel_rfl)
theorem q4877 : Known 56 x4877 y4877 := knownT all1 (n := 399) (by kernel_rfl)
theorem q4886 : Known 56 x4886 y4886 := knownT all1 (n := 399) (by kernel_rfl)
theorem q5567 : Known 23 x5567 y5567 := knownT all1 (n := 399) (by kernel_rfl)
end Go.Proofs.YthndchidnkbgiaaGreatDoor
