/- DrivePower: exponent 10. -/
import Derived.Test.YtndojngcaohgnaaGreatDoorDPP
set_option linter.unusedVariables false
set_option linter.unusedSectionVars false
set_option linter.unusedSimpArgs false
set_option linter.unnecessarySimpa false
namespace Go.Proofs.YtndojngcaohgnaaGreatDoor
open Go Go.Ev
theorem power10_0 (n x : Int) : last3_ n x 10 0 = some (.bool true) := by kernel_rfl
theorem power10_1 (n x : Int) : last3_ n x 10 1 = some (.bool true) := by kernel_rfl
theorem power10_2 (n x : Int) : last3_ n x 10 2 = some (.bool true) := by kernel_rfl
theorem power10_3 (n x : Int) : last3_ n x 10 3 = some (.bool true) := by kernel_rfl
theorem power10_4 (n x : Int) : last3_ n x 10 4 = some (.bool true) := by kernel_rfl
theorem power10_5 (n x : Int) : last3_ n x 10 5 = some (.bool true) := by kernel_rfl
theorem power10_6 (n x : Int) : last3_ n x 10 6 = some (.bool true) := by kernel_rfl
theorem every3_10 (n x : Int) : ∀ j : Fin 7, last3_ n x 10 (j.val : Int) = some (.bool true) := fun j => match j with
  | ⟨0, _⟩ => power10_0 n x
  | ⟨1, _⟩ => power10_1 n x
  | ⟨2, _⟩ => power10_2 n x
  | ⟨3, _⟩ => power10_3 n x
  | ⟨4, _⟩ => power10_4 n x
  | ⟨5, _⟩ => power10_5 n x
  | ⟨6, _⟩ => power10_6 n x
  | ⟨j + 7, h⟩ => absurd h (by omega)
end Go.Proofs.YtndojngcaohgnaaGreatDoor
