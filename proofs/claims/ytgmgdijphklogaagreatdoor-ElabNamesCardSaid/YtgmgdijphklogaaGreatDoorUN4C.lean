/- ElabNames: 5 binders. -/
import Derived.Test.YtgmgdijphklogaaGreatDoorUNP
set_option linter.unusedVariables false
set_option linter.unusedSectionVars false
set_option linter.unusedSimpArgs false
set_option linter.unnecessarySimpa false
namespace Go.Proofs.YtgmgdijphklogaaGreatDoor
open Go Go.Ev
theorem names4_4 (n m : Int) : last6 n m 4 4 = some (.bool true) := by kernel_rfl
end Go.Proofs.YtgmgdijphklogaaGreatDoor
