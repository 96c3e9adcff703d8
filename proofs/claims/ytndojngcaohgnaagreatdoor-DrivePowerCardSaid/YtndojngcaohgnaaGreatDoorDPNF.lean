/- DrivePower: exponent 5. -/
import Derived.Test.YtndojngcaohgnaaGreatDoorDPP
set_option linter.unusedVariables false
set_option linter.unusedSectionVars false
set_option linter.unusedSimpArgs false
set_option linter.unnecessarySimpa false
namespace Go.Proofs.YtndojngcaohgnaaGreatDoor
open Go Go.Ev
theorem power5_0 (n x : Int) : last3_ n x 5 0 = some (.bool true) := by kernel_rfl
theorem power5_1 (n x : Int) : last3_ n x 5 1 = some (.bool true) := by kernel_rfl
theorem power5_2 (n x : Int) : last3_ n x 5 2 = some (.bool true) := by kernel_rfl
theorem power5_3 (n x : Int) : last3_ n x 5 3 = some (.bool true) := by kernel_rfl
theorem power5_4 (n x : Int) : last3_ n x 5 4 = some (.bool true) := by kernel_rfl
theorem power5_5 (n x : Int) : last3_ n x 5 5 = some (.bool true) := by kernel_rfl
theorem power5_6 (n x : Int) : last3_ n x 5 6 = some (.bool true) := by kernel_rfl
theorem every3_5 (n x : Int) : ∀ j : Fin 7, last3_ n x 5 (j.val : Int) = some (.bool true) := fun j => match j with
  | ⟨0, _⟩ => power5_0 n x
  | ⟨1, _⟩ => power5_1 n x
  | ⟨2, _⟩ => power5_2 n x
  | ⟨3, _⟩ => power5_3 n x
  | ⟨4, _⟩ => power5_4 n x
  | ⟨5, _⟩ => power5_5 n x
  | ⟨6, _⟩ => power5_6 n x
  | ⟨j + 7, h⟩ => absurd h (by omega)
end Go.Proofs.YtndojngcaohgnaaGreatDoor
