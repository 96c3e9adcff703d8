/- ElabForms: what is told of the forms 24 to 35. -/
import Derived.Test.YtdfeffddghpaoaaGreatDoorZ2
set_option linter.unusedVariables false
set_option linter.unusedSectionVars false
set_option linter.unusedSimpArgs false
set_option linter.unnecessarySimpa false
namespace Go.Proofs.YtdfeffddghpaoaaGreatDoor
open Go Go.Ev
theorem toldF24 : (orcF cfg 399).clo 9 [.str ⟨#[40, 108, 105, 102, 116, 32, 78, 97, 116, 41]⟩] = some (.str ⟨#[116, 121, 112, 101]⟩) := by kernel_rfl
theorem toldF25 : (orcF cfg 399).clo 9 [.str ⟨#[40, 113, 117, 111, 116, 101, 32, 120, 41]⟩] = some (.str ⟨#[40, 49, 57, 32, 118, 49, 41, 32, 49, 32, 40, 49, 56, 32, 49, 53, 41]⟩) := by kernel_rfl
theorem toldF26 : (orcF cfg 399).clo 9 [.str ⟨#[40, 113, 117, 111, 116, 101, 32, 99, 41]⟩] = some (.str ⟨#[40, 49, 57, 32, 40, 51, 48, 32, 118, 51, 41, 41, 32, 49, 32, 40, 49, 56, 32, 49, 53, 41]⟩) := by kernel_rfl
theorem toldF27 : (orcF cfg 399).clo 9 [.str ⟨#[40, 113, 117, 111, 116, 101, 32, 110, 41]⟩] = some (.str ⟨#[115, 116, 97, 103, 101]⟩) := by kernel_rfl
theorem toldF28 : (orcF cfg 399).clo 9 [.str ⟨#[40, 115, 112, 108, 105, 99, 101, 32, 99, 41]⟩] = some (.str ⟨#[40, 51, 48, 32, 118, 51, 41, 32, 48, 32, 49, 53]⟩) := by kernel_rfl
theorem toldF29 : (orcF cfg 399).clo 9 [.str ⟨#[40, 115, 112, 108, 105, 99, 101, 32, 120, 41]⟩] = some (.str ⟨#[115, 116, 97, 103, 101]⟩) := by kernel_rfl
theorem toldF30 : (orcF cfg 399).clo 9 [.str ⟨#[40, 115, 112, 108, 105, 99, 101, 32, 110, 41]⟩] = some (.str ⟨#[115, 116, 97, 103, 101]⟩) := by kernel_rfl
theorem toldF31 : (orcF cfg 399).clo 9 [.str ⟨#[40, 97, 100, 100, 32, 99, 32, 120, 41]⟩] = some (.str ⟨#[40, 50, 54, 47, 48, 32, 40, 51, 48, 32, 118, 51, 41, 32, 118, 49, 41, 32, 48, 32, 49, 53]⟩) := by kernel_rfl
theorem toldF32 : (orcF cfg 399).clo 9 [.str ⟨#[40, 108, 101, 115, 115, 32, 110, 32, 49, 41]⟩] = some (.str ⟨#[115, 116, 97, 103, 101]⟩) := by kernel_rfl
theorem toldF33 : (orcF cfg 399).clo 9 [.str ⟨#[40, 105, 102, 32, 120, 32, 99, 32, 50, 41]⟩] = some (.str ⟨#[40, 50, 55, 32, 118, 49, 32, 40, 51, 48, 32, 118, 51, 41, 32, 105, 50, 41, 32, 48, 32, 49, 53]⟩) := by kernel_rfl
theorem toldF34 : (orcF cfg 399).clo 9 [.str ⟨#[40, 105, 102, 32, 120, 32, 110, 32, 50, 41]⟩] = some (.str ⟨#[115, 116, 97, 103, 101]⟩) := by kernel_rfl
theorem toldF35 : (orcF cfg 399).clo 9 [.str ⟨#[40, 105, 102, 32, 104, 32, 49, 32, 50, 41]⟩] = some (.str ⟨#[116, 121, 112, 101]⟩) := by kernel_rfl
end Go.Proofs.YtdfeffddghpaoaaGreatDoor
