/- Calls of stage 3. -/
import Derived.Test.YthndchidnkbgiaaGreatDoorDTT2
set_option linter.unusedVariables false
set_option linter.unusedSectionVars false
set_option linter.unusedSimpArgs false
set_option linter.unnecessarySimpa false
namespace Go.Proofs.YthndchidnkbgiaaGreatDoor
open Go Go.Ev
theorem q1335 : Known 75 x1335 y1335 := knownT all2 (n := 399) (by kernel_rfl)
theorem q1719 : Known 239 x1719 y1719 := knownT all2 (n := 399) (by kernel_rfl)
theorem q1733 : Known 251 x1733 y1733 := knownT all2 (n := 399) (by kernel_rfl)
theorem q2063 : Known 251 x2063 y2063 := knownT all2 (n := 399) (by kernel_rfl)
theorem q2110 : Known 122 x2110 y2110 := knownT all2 (n := 399) (by kernel_rfl)
theorem q2152 : Known 34 x2152 y2152 := knownT all2 (n := 399) (by kernel_rfl)
end Go.Proofs.YthndchidnkbgiaaGreatDoor
