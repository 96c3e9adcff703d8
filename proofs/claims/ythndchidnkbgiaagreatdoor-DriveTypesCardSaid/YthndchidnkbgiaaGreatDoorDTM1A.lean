/- Calls of stage 1. -/
import Derived.Test.YthndchidnkbgiaaGreatDoorDT1
set_option linter.unusedVariables false
set_option linter.unusedSectionVars false
set_option linter.unusedSimpArgs false
set_option linter.unnecessarySimpa false
namespace Go.Proofs.YthndchidnkbgiaaGreatDoor
open Go Go.Ev
theorem q65 : Known 158 x65 y65 := knownT all0 (n := 399) (by kernel_rfl)
theorem q80 : Known 111 x80 y80 := knownT all0 (n := 399) (by kernel_rfl)
theorem q712 : Known 39 x712 y712 := knownT all0 (n := 399) (by kernel_rfl)
theorem q761 : Known 45 x761 y761 := knownT all0 (n := 399) (by kernel_rfl)
theorem q788 : Known 45 x788 y788 := knownT all0 (n := 399) (by kernel_rfl)
theorem q812 : Known 111 x812 y812 := knownT all0 (n := 399) (by kernel_rfl)
theorem q814 : Known 111 x814 y814 := knownT all0 (n := 399) (by kernel_rfl)
theorem q820 : Known 111 x820 y820 := knownT all0 (n := 399) (by kernel_rfl)
theorem q828 : Known 111 x828 y828 := knownT all0 (n := 399) (by kernel_rfl)
theorem q839 : Known 111 x839 y839 := knownT all0 (n := 399) (by kernel_rfl)
theorem q843 : Known 111 x843 y843 := knownT all0 (n := 399) (by kernel_rfl)
theorem q848 : Known 111 x848 y848 := knownT all0 (n := 399) (by kernel_rfl)
theorem q866 : Known 111 x866 y866 := knownT all0 (n := 399) (by kernel_rfl)
theorem q868 : Known 111 x868 y868 := knownT all0 (n := 399) (by kernel_rfl)
theorem q873 : Known 111 x873 y873 := knownT all0 (n := 399) (by kernel_rfl)
theorem q875 : Known 111 x875 y875 := knownT all0 (n := 399) (by kernel_rfl)
end Go.Proofs.YthndchidnkbgiaaGreatDoor
