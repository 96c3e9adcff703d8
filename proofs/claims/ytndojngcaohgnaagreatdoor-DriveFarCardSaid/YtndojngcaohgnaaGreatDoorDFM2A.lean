/- Calls of stage 2. -/
import Derived.Test.YtndojngcaohgnaaGreatDoorDFT1
set_option linter.unusedVariables false
set_option linter.unusedSectionVars false
set_option linter.unusedSimpArgs false
set_option linter.unnecessarySimpa false
namespace Go.Proofs.YtndojngcaohgnaaGreatDoor
open Go Go.Ev
theorem q140 : Known 11 x140 y140 := knownT all1 (n := 399) (by kernel_rfl)
theorem q182 : Known 11 x182 y182 := knownT all1 (n := 399) (by kernel_rfl)
theorem q262 : Known 11 x262 y262 := knownT all1 (n := 399) (by kernel_rfl)
theorem q485 : Known 11 x485 y485 := knownT all1 (n := 399) (by kernel_rfl)
end Go.Proofs.YtndojngcaohgnaaGreatDoor
