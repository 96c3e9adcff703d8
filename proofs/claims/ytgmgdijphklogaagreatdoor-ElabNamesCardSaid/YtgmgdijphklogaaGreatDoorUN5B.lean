/- ElabNames: 6 binders. -/
import Derived.Test.YtgmgdijphklogaaGreatDoorUNP
set_option linter.unusedVariables false
set_option linter.unusedSectionVars false
set_option linter.unusedSimpArgs false
set_option linter.unnecessarySimpa false
namespace Go.Proofs.YtgmgdijphklogaaGreatDoor
open Go Go.Ev
theorem names5_2 (n m : Int) : last6 n m 5 2 = some (.bool true) := by kernel_rfl
theorem names5_3 (n m : Int) : last6 n m 5 3 = some (.bool true) := by kernel_rfl
end Go.Proofs.YtgmgdijphklogaaGreatDoor
