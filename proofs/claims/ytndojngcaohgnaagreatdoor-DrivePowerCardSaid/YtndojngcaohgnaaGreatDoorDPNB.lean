/- DrivePower: exponent 1. -/
import Derived.Test.YtndojngcaohgnaaGreatDoorDPP
set_option linter.unusedVariables false
set_option linter.unusedSectionVars false
set_option linter.unusedSimpArgs false
set_option linter.unnecessarySimpa false
namespace Go.Proofs.YtndojngcaohgnaaGreatDoor
open Go Go.Ev
theorem power1_0 (n x : Int) : last3_ n x 1 0 = some (.bool true) := by kernel_rfl
theorem power1_1 (n x : Int) : last3_ n x 1 1 = some (.bool true) := by kernel_rfl
theorem power1_2 (n x : Int) : last3_ n x 1 2 = some (.bool true) := by kernel_rfl
theorem power1_3 (n x : Int) : last3_ n x 1 3 = some (.bool true) := by kernel_rfl
theorem power1_4 (n x : Int) : last3_ n x 1 4 = some (.bool true) := by kernel_rfl
theorem power1_5 (n x : Int) : last3_ n x 1 5 = some (.bool true) := by kernel_rfl
theorem power1_6 (n x : Int) : last3_ n x 1 6 = some (.bool true) := by kernel_rfl
theorem every3_1 (n x : Int) : ∀ j : Fin 7, last3_ n x 1 (j.val : Int) = some (.bool true) := fun j => match j with
  | ⟨0, _⟩ => power1_0 n x
  | ⟨1, _⟩ => power1_1 n x
  | ⟨2, _⟩ => power1_2 n x
  | ⟨3, _⟩ => power1_3 n x
  | ⟨4, _⟩ => power1_4 n x
  | ⟨5, _⟩ => power1_5 n x
  | ⟨6, _⟩ => power1_6 n x
  | ⟨j + 7, h⟩ => absurd h (by omega)
end Go.Proofs.YtndojngcaohgnaaGreatDoor
