/- known() is true. -/
import Derived.Test.YtealapdmffhbdaaGreatDoorSWT2
import Derived.Test.YtealapdmffhbdaaGreatDoorEvE
set_option linter.unusedVariables false
set_option linter.unusedSectionVars false
set_option linter.unusedSimpArgs false
set_option linter.unnecessarySimpa false
namespace Go.Proofs.YtealapdmffhbdaaGreatDoor
open Go Go.Ev
theorem knownF : Known 5 [] (.bool true) := knownT all2 (n := 399) (by kernel_rfl)
end Go.Proofs.YtealapdmffhbdaaGreatDoor
