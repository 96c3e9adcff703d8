/- ElabNames: 8 binders. -/
import Derived.Test.YtgmgdijphklogaaGreatDoorUNP
set_option linter.unusedVariables false
set_option linter.unusedSectionVars false
set_option linter.unusedSimpArgs false
set_option linter.unnecessarySimpa false
namespace Go.Proofs.YtgmgdijphklogaaGreatDoor
open Go Go.Ev
theorem names7_6 (n m : Int) : last6 n m 7 6 = some (.bool true) := by kernel_rfl
theorem names7_7 (n m : Int) : last6 n m 7 7 = some (.bool true) := by kernel_rfl
end Go.Proofs.YtgmgdijphklogaaGreatDoor
