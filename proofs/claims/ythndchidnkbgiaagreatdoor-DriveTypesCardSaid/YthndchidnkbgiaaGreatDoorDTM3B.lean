/- Calls of stage 3. -/
import Derived.Test.YthndchidnkbgiaaGreatDoorDTT2
set_option linter.unusedVariables false
set_option linter.unusedSectionVars false
set_option linter.unusedSimpArgs false
set_option linter.unnecessarySimpa false
namespace Go.Proofs.YthndchidnkbgiaaGreatDoor
open Go Go.Ev
theorem q2837 : Known 34 x2837 y2837 := knownT all2 (n := 399) (by kernel_rfl)
theorem q3521 : Known 56 x3521 y3521 := knownT all2 (n := 399) (by kernel_rfl)
theorem q4228 : Known 56 x4228 y4228 := knownT all2 (n := 399) (by kernel_rfl)
end Go.Proofs.YthndchidnkbgiaaGreatDoor
