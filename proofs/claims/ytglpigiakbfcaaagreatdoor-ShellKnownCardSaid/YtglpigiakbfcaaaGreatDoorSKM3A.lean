/- Calls of stage 3. -/
import Derived.Test.YtglpigiakbfcaaaGreatDoorSKT2
set_option linter.unusedVariables false
set_option linter.unusedSectionVars false
set_option linter.unusedSimpArgs false
set_option linter.unnecessarySimpa false
namespace Go.Proofs.YtglpigiakbfcaaaGreatDoor
open Go Go.Ev
theorem q288 : Known 46 x288 y288 := knownT all2 (n := 399) (by kernel_rfl)
theorem q842 : Known 56 x842 y842 := knownT all2 (n := 399) (by kernel_rfl)
theorem q935 : Known 184 x935 y935 := knownT all2 (n := 399) (by kernel_rfl)
theorem q1038 : Known 56 x1038 y1038 := knownT all2 (n := 399) (by kernel_rfl)
theorem q1108 : Known 106 x1108 y1108 := knownT all2 (n := 399) (by kernel_rfl)
end Go.Proofs.YtglpigiakbfcaaaGreatDoor
