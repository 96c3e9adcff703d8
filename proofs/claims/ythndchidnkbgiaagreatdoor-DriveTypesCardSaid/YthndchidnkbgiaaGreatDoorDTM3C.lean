/- Calls of stage 3. -/
import Derived.Test.YthndchidnkbgiaaGreatDoorDTT2
set_option linter.unusedVariables false
set_option linter.unusedSectionVars false
set_option linter.unusedSimpArgs false
set_option linter.unnecessarySimpa false
namespace Go.Proofs.YthndchidnkbgiaaGreatDoor
open Go Go.Ev
theorem q4943 : Known 56 x4943 y4943 := knownT all2 (n := 399) (by kernel_rfl)
theorem q5634 : Known 75 x5634 y5634 := knownT all2 (n := 399) (by kernel_rfl)
end Go.Proofs.YthndchidnkbgiaaGreatDoor
