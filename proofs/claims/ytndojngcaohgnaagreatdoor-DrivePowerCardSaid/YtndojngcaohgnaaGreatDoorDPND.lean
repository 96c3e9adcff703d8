/- DrivePower: exponent 3. -/
import Derived.Test.YtndojngcaohgnaaGreatDoorDPP
set_option linter.unusedVariables false
set_option linter.unusedSectionVars false
set_option linter.unusedSimpArgs false
set_option linter.unnecessarySimpa false
namespace Go.Proofs.YtndojngcaohgnaaGreatDoor
open Go Go.Ev
theorem power3_0 (n x : Int) : last3_ n x 3 0 = some (.bool true) := by kernel_rfl
theorem power3_1 (n x : Int) : last3_ n x 3 1 = some (.bool true) := by kernel_rfl
theorem power3_2 (n x : Int) : last3_ n x 3 2 = some (.bool true) := by kernel_rfl
theorem power3_3 (n x : Int) : last3_ n x 3 3 = some (.bool true) := by kernel_rfl
theorem power3_4 (n x : Int) : last3_ n x 3 4 = some (.bool true) := by kernel_rfl
theorem power3_5 (n x : Int) : last3_ n x 3 5 = some (.bool true) := by kernel_rfl
theorem power3_6 (n x : Int) : last3_ n x 3 6 = some (.bool true) := by kernel_rfl
theorem every3_3 (n x : Int) : ∀ j : Fin 7, last3_ n x 3 (j.val : Int) = some (.bool true) := fun j => match j with
  | ⟨0, _⟩ => power3_0 n x
  | ⟨1, _⟩ => power3_1 n x
  | ⟨2, _⟩ => power3_2 n x
  | ⟨3, _⟩ => power3_3 n x
  | ⟨4, _⟩ => power3_4 n x
  | ⟨5, _⟩ => power3_5 n x
  | ⟨6, _⟩ => power3_6 n x
  | ⟨j + 7, h⟩ => absurd h (by omega)
end Go.Proofs.YtndojngcaohgnaaGreatDoor
