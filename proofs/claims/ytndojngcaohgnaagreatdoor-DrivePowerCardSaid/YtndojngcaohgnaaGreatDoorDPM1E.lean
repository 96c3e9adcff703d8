/- Calls of stage 1. -/
import Derived.Test.YtndojngcaohgnaaGreatDoorDPVA
set_option linter.unusedVariables false
set_option linter.unusedSectionVars false
set_option linter.unusedSimpArgs false
set_option linter.unnecessarySimpa false
namespace Go.Proofs.YtndojngcaohgnaaGreatDoor
open Go Go.Ev
theorem q6254 : Known 33 x6254 y6254 := knownT all0 (n := 399) (by kernel_rfl)
theorem q6619 : Known 33 x6619 y6619 := knownT all0 (n := 399) (by kernel_rfl)
theorem q6692 : Known 33 x6692 y6692 := knownT all0 (n := 399) (by kernel_rfl)
theorem q6707 : Known 33 x6707 y6707 := knownT all0 (n := 399) (by kernel_rfl)
theorem q6713 : Known 33 x6713 y6713 := knownT all0 (n := 399) (by kernel_rfl)
theorem q6717 : Known 33 x6717 y6717 := knownT all0 (n := 399) (by kernel_rfl)
theorem q6721 : Known 33 x6721 y6721 := knownT all0 (n := 399) (by kernel_rfl)
theorem q6725 : Known 33 x6725 y6725 := knownT all0 (n := 399) (by kernel_rfl)
theorem q6731 : Known 33 x6731 y6731 := knownT all0 (n := 399) (by kernel_rfl)
end Go.Proofs.YtndojngcaohgnaaGreatDoor
