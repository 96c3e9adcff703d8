/- Calls of stage 1. -/
import Derived.Test.YtealapdmffhbdaaGreatDoorSWVA
set_option linter.unusedVariables false
set_option linter.unusedSectionVars false
set_option linter.unusedSimpArgs false
set_option linter.unnecessarySimpa false
namespace Go.Proofs.YtealapdmffhbdaaGreatDoor
open Go Go.Ev
theorem q140 : Known 168 x140 y140 := knownT all0 (n := 399) (by kernel_rfl)
theorem q207 : Known 335 x207 y207 := knownT all0 (n := 399) (by kernel_rfl)
theorem q296 : Known 85 x296 y296 := joinK (by kernel_rfl)
end Go.Proofs.YtealapdmffhbdaaGreatDoor
