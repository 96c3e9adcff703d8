/- Calls of stage 1. -/
import Derived.Test.YthndchidnkbgiaaGreatDoorDT1
set_option linter.unusedVariables false
set_option linter.unusedSectionVars false
set_option linter.unusedSimpArgs false
set_option linter.unnecessarySimpa false
namespace Go.Proofs.YthndchidnkbgiaaGreatDoor
open Go Go.Ev
theorem q4104 : Known 39 x4104 y4104 := knownT all0 (n := 399) (by kernel_rfl)
theorem q4146 : Known 186 x4146 y4146 := knownT all0 (n := 399) (by kernel_rfl)
theorem q4157 : Known 180 x4157 y4157 := knownT all0 (n := 399) (by kernel_rfl)
theorem q4162 : Known 56 x4162 y4162 := knownT all0 (n := 399) (by kernel_rfl)
theorem q4278 : Known 148 x4278 y4278 := knownT all0 (n := 399) (by kernel_rfl)
end Go.Proofs.YthndchidnkbgiaaGreatDoor
