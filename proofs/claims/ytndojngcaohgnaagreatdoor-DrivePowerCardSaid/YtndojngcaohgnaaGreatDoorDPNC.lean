/- DrivePower: exponent 2. -/
import Derived.Test.YtndojngcaohgnaaGreatDoorDPP
set_option linter.unusedVariables false
set_option linter.unusedSectionVars false
set_option linter.unusedSimpArgs false
set_option linter.unnecessarySimpa false
namespace Go.Proofs.YtndojngcaohgnaaGreatDoor
open Go Go.Ev
theorem power2_0 (n x : Int) : last3_ n x 2 0 = some (.bool true) := by kernel_rfl
theorem power2_1 (n x : Int) : last3_ n x 2 1 = some (.bool true) := by kernel_rfl
theorem power2_2 (n x : Int) : last3_ n x 2 2 = some (.bool true) := by kernel_rfl
theorem power2_3 (n x : Int) : last3_ n x 2 3 = some (.bool true) := by kernel_rfl
theorem power2_4 (n x : Int) : last3_ n x 2 4 = some (.bool true) := by kernel_rfl
theorem power2_5 (n x : Int) : last3_ n x 2 5 = some (.bool true) := by kernel_rfl
theorem power2_6 (n x : Int) : last3_ n x 2 6 = some (.bool true) := by kernel_rfl
theorem every3_2 (n x : Int) : ∀ j : Fin 7, last3_ n x 2 (j.val : Int) = some (.bool true) := fun j => match j with
  | ⟨0, _⟩ => power2_0 n x
  | ⟨1, _⟩ => power2_1 n x
  | ⟨2, _⟩ => power2_2 n x
  | ⟨3, _⟩ => power2_3 n x
  | ⟨4, _⟩ => power2_4 n x
  | ⟨5, _⟩ => power2_5 n x
  | ⟨6, _⟩ => power2_6 n x
  | ⟨j + 7, h⟩ => absurd h (by omega)
end Go.Proofs.YtndojngcaohgnaaGreatDoor
