/- Calls of stage 2. -/
import Derived.Test.YtealapdmffhbdaaGreatDoorSWT1
set_option linter.unusedVariables false
set_option linter.unusedSectionVars false
set_option linter.unusedSimpArgs false
set_option linter.unnecessarySimpa false
namespace Go.Proofs.YtealapdmffhbdaaGreatDoor
open Go Go.Ev
theorem q288 : Known 54 x288 y288 := knownT all1 (n := 399) (by kernel_rfl)
end Go.Proofs.YtealapdmffhbdaaGreatDoor
