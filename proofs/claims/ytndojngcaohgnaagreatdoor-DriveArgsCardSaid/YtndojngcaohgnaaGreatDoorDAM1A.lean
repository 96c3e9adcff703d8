/- Calls of stage 1. -/
import Derived.Test.YtndojngcaohgnaaGreatDoorDAVA
set_option linter.unusedVariables false
set_option linter.unusedSectionVars false
set_option linter.unusedSimpArgs false
set_option linter.unnecessarySimpa false
namespace Go.Proofs.YtndojngcaohgnaaGreatDoor
open Go Go.Ev
theorem q63 : Known 25 x63 y63 := knownT all0 (n := 399) (by kernel_rfl)
theorem q65 : Known 163 x65 y65 := knownT all0 (n := 399) (by kernel_rfl)
theorem q80 : Known 116 x80 y80 := knownT all0 (n := 399) (by kernel_rfl)
theorem q118 : Known 35 x118 y118 := knownT all0 (n := 399) (by kernel_rfl)
theorem q128 : Known 36 x128 y128 := knownT all0 (n := 399) (by kernel_rfl)
theorem q270 : Known 25 x270 y270 := knownT all0 (n := 399) (by kernel_rfl)
theorem q371 : Known 163 x371 y371 := knownT all0 (n := 399) (by kernel_rfl)
theorem q411 : Known 214 x411 y411 := knownT all0 (n := 399) (by kernel_rfl)
theorem q440 : Known 61 x440 y440 := knownT all0 (n := 399) (by kernel_rfl)
theorem q455 : Known 61 x455 y455 := knownT all0 (n := 399) (by kernel_rfl)
theorem q498 : Known 214 x498 y498 := knownT all0 (n := 399) (by kernel_rfl)
theorem q576 : Known 36 x576 y576 := knownT all0 (n := 399) (by kernel_rfl)
theorem q601 : Known 37 x601 y601 := knownT all0 (n := 399) (by kernel_rfl)
theorem q783 : Known 205 x783 y783 := knownT all0 (n := 399) (by kernel_rfl)
theorem q820 : Known 61 x820 y820 := knownT all0 (n := 399) (by kernel_rfl)
theorem q834 : Known 61 x834 y834 := knownT all0 (n := 399) (by kernel_rfl)
end Go.Proofs.YtndojngcaohgnaaGreatDoor
