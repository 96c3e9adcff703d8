/- DrivePower: exponent 0. -/
import Derived.Test.YtndojngcaohgnaaGreatDoorDPP
set_option linter.unusedVariables false
set_option linter.unusedSectionVars false
set_option linter.unusedSimpArgs false
set_option linter.unnecessarySimpa false
namespace Go.Proofs.YtndojngcaohgnaaGreatDoor
open Go Go.Ev
theorem power0_0 (n x : Int) : last3_ n x 0 0 = some (.bool true) := by kernel_rfl
theorem power0_1 (n x : Int) : last3_ n x 0 1 = some (.bool true) := by kernel_rfl
theorem power0_2 (n x : Int) : last3_ n x 0 2 = some (.bool true) := by kernel_rfl
theorem power0_3 (n x : Int) : last3_ n x 0 3 = some (.bool true) := by kernel_rfl
theorem power0_4 (n x : Int) : last3_ n x 0 4 = some (.bool true) := by kernel_rfl
theorem power0_5 (n x : Int) : last3_ n x 0 5 = some (.bool true) := by kernel_rfl
theorem power0_6 (n x : Int) : last3_ n x 0 6 = some (.bool true) := by kernel_rfl
theorem every3_0 (n x : Int) : ∀ j : Fin 7, last3_ n x 0 (j.val : Int) = some (.bool true) := fun j => match j with
  | ⟨0, _⟩ => power0_0 n x
  | ⟨1, _⟩ => power0_1 n x
  | ⟨2, _⟩ => power0_2 n x
  | ⟨3, _⟩ => power0_3 n x
  | ⟨4, _⟩ => power0_4 n x
  | ⟨5, _⟩ => power0_5 n x
  | ⟨6, _⟩ => power0_6 n x
  | ⟨j + 7, h⟩ => absurd h (by omega)
end Go.Proofs.YtndojngcaohgnaaGreatDoor
