/- Calls of stage 1. -/
import Derived.Test.YtmhemnlcgjebkaaGreatDoorUMVA
set_option linter.unusedVariables false
set_option linter.unusedSectionVars false
set_option linter.unusedSimpArgs false
set_option linter.unnecessarySimpa false
namespace Go.Proofs.YtmhemnlcgjebkaaGreatDoor
open Go Go.Ev
theorem q4 : Known 42 x4 y4 := knownT all0 (n := 399) (by kernel_rfl)
theorem q29 : Known 21 x29 y29 := knownT all0 (n := 399) (by kernel_rfl)
theorem q34 : Known 48 x34 y34 := knownT all0 (n := 399) (by kernel_rfl)
end Go.Proofs.YtmhemnlcgjebkaaGreatDoor
