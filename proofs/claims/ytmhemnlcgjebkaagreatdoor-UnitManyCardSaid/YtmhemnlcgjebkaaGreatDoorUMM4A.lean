/- Calls of stage 4. -/
import Derived.Test.YtmhemnlcgjebkaaGreatDoorUMT3
set_option linter.unusedVariables false
set_option linter.unusedSectionVars false
set_option linter.unusedSimpArgs false
set_option linter.unnecessarySimpa false
namespace Go.Proofs.YtmhemnlcgjebkaaGreatDoor
open Go Go.Ev
theorem q280 : Known 21 x280 y280 := knownT all3 (n := 399) (by kernel_rfl)
theorem q293 : Known 21 x293 y293 := knownT all3 (n := 399) (by kernel_rfl)
theorem q306 : Known 21 x306 y306 := knownT all3 (n := 399) (by kernel_rfl)
theorem q319 : Known 21 x319 y319 := knownT all3 (n := 399) (by kernel_rfl)
theorem q332 : Known 21 x332 y332 := knownT all3 (n := 399) (by kernel_rfl)
theorem q345 : Known 21 x345 y345 := knownT all3 (n := 399) (by kernel_rfl)
theorem q358 : Known 21 x358 y358 := knownT all3 (n := 399) (by kernel_rfl)
end Go.Proofs.YtmhemnlcgjebkaaGreatDoor
