/- ElabNames: 2 binders. -/
import Derived.Test.YtgmgdijphklogaaGreatDoorUNP
set_option linter.unusedVariables false
set_option linter.unusedSectionVars false
set_option linter.unusedSimpArgs false
set_option linter.unnecessarySimpa false
namespace Go.Proofs.YtgmgdijphklogaaGreatDoor
open Go Go.Ev
theorem names1_0 (n m : Int) : last6 n m 1 0 = some (.bool true) := by kernel_rfl
theorem names1_1 (n m : Int) : last6 n m 1 1 = some (.bool true) := by kernel_rfl
end Go.Proofs.YtgmgdijphklogaaGreatDoor
