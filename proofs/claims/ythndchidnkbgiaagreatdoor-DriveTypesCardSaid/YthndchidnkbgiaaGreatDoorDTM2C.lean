/- Calls of stage 2. -/
import Derived.Test.YthndchidnkbgiaaGreatDoorDTT1
set_option linter.unusedVariables false
set_option linter.unusedSectionVars false
set_option linter.unusedSimpArgs false
set_option linter.unnecessarySimpa false
namespace Go.Proofs.YthndchidnkbgiaaGreatDoor
open Go Go.Ev
theorem q1777 : Known 166 x1777 y1777 := knownT all1 (n := 399) (by kernel_rfl)
theorem q1792 : Known 115 x1792 y1792 := knownT all1 (n := 399) (by kernel_rfl)
theorem q1809 : Known 56 x1809 y1809 := knownT all1 (n := 399) (by kernel_rfl)
theorem q1954 : Known 56 x1954 y1954 := knownT all1 (n := 399) (by kernel_rfl)
theorem q2053 : Known 56 x2053 y2053 := knownT all1 (n := 399) (by kernel_rfl)
theorem q2133 : Known 85 x2133 y2133 := knownT all1 (n := 399) (by kernel_rfl)
theorem q2701 : Known 23 x2701 y2701 := knownT all1 (n := 399) (by kernel_rfl)
theorem q2713 : Known 47 x2713 y2713 := knownT all1 (n := 399) (by kernel_rfl)
end Go.Proofs.YthndchidnkbgiaaGreatDoor
