/- ElabBinders: what is told of the forms 12 to 23. -/
import Derived.Test.YtdfeffddghpaoaaGreatDoorZ2
set_option linter.unusedVariables false
set_option linter.unusedSectionVars false
set_option linter.unusedSimpArgs false
set_option linter.unnecessarySimpa false
namespace Go.Proofs.YtdfeffddghpaoaaGreatDoor
open Go Go.Ev
theorem toldB12 : (orcF cfg 399).clo 9 [.str ⟨#[40, 116, 104, 101, 32, 40, 108, 105, 102, 116, 32, 40, 45, 62, 32, 73, 110, 116, 32, 73, 110, 116, 41, 41, 32, 40, 102, 110, 32, 97, 32, 97, 41, 41]⟩] = some (.str ⟨#[40, 49, 57, 32, 40, 50, 48, 32, 49, 53, 32, 118, 48, 41, 41, 32, 49, 32, 40, 49, 56, 32, 40, 49, 54, 32, 49, 53, 32, 49, 53, 41, 41]⟩) := by kernel_rfl
theorem toldB13 : (orcF cfg 399).clo 9 [.str ⟨#[40, 116, 104, 101, 32, 40, 42, 32, 78, 97, 116, 32, 78, 97, 116, 41, 32, 40, 112, 97, 105, 114, 32, 49, 32, 50, 41, 41]⟩] = some (.str ⟨#[40, 55, 32, 40, 54, 32, 49, 48, 32, 49, 48, 41, 32, 40, 49, 50, 32, 49, 49, 41, 32, 40, 49, 50, 32, 40, 49, 50, 32, 49, 49, 41, 41, 41, 32, 49, 32, 40, 54, 32, 49, 48, 32, 49, 48, 41]⟩) := by kernel_rfl
theorem toldB14 : (orcF cfg 399).clo 9 [.str ⟨#[40, 116, 104, 101, 32, 40, 42, 32, 73, 110, 116, 32, 73, 110, 116, 41, 32, 40, 112, 97, 105, 114, 32, 49, 32, 50, 41, 41]⟩] = some (.str ⟨#[40, 50, 50, 32, 105, 49, 32, 105, 50, 41, 32, 48, 32, 40, 49, 55, 32, 49, 53, 32, 49, 53, 41]⟩) := by kernel_rfl
theorem toldB15 : (orcF cfg 399).clo 9 [.str ⟨#[40, 116, 104, 101, 32, 78, 97, 116, 32, 120, 41]⟩] = some (.str ⟨#[115, 116, 97, 103, 101]⟩) := by kernel_rfl
theorem toldB16 : (orcF cfg 399).clo 9 [.str ⟨#[40, 116, 104, 101, 32, 78, 97, 116, 32, 52, 49, 41]⟩] = some (.str ⟨#[97, 114, 103]⟩) := by kernel_rfl
theorem toldB17 : (orcF cfg 399).clo 9 [.str ⟨#[40, 116, 104, 101, 32, 78, 97, 116, 32, 45, 49, 41]⟩] = some (.str ⟨#[97, 114, 103]⟩) := by kernel_rfl
theorem toldB18 : (orcF cfg 399).clo 9 [.str ⟨#[40, 116, 104, 101, 32, 110, 32, 49, 41]⟩] = some (.str ⟨#[115, 104, 97, 112, 101]⟩) := by kernel_rfl
theorem toldB19 : (orcF cfg 399).clo 9 [.str ⟨#[40, 116, 104, 101, 32, 73, 110, 116, 32, 99, 41]⟩] = some (.str ⟨#[40, 51, 48, 32, 118, 51, 41, 32, 48, 32, 49, 53]⟩) := by kernel_rfl
theorem toldB20 : (orcF cfg 399).clo 9 [.str ⟨#[40, 116, 104, 101, 32, 40, 108, 105, 102, 116, 32, 73, 110, 116, 41, 32, 120, 41]⟩] = some (.str ⟨#[40, 49, 57, 32, 118, 49, 41, 32, 49, 32, 40, 49, 56, 32, 49, 53, 41]⟩) := by kernel_rfl
theorem toldB21 : (orcF cfg 399).clo 9 [.str ⟨#[40, 116, 104, 101, 32, 85, 49, 32, 85, 48, 41]⟩] = some (.str ⟨#[85, 48, 32, 49, 32, 85, 49]⟩) := by kernel_rfl
theorem toldB22 : (orcF cfg 399).clo 9 [.str ⟨#[40, 114, 101, 99, 32, 40, 97, 32, 78, 97, 116, 41, 32, 110, 32, 40, 105, 32, 106, 32, 40, 115, 117, 99, 32, 106, 41, 41, 32, 50, 41]⟩] = some (.str ⟨#[40, 49, 51, 32, 49, 48, 32, 118, 53, 32, 40, 49, 50, 32, 118, 48, 41, 32, 40, 49, 50, 32, 40, 49, 50, 32, 49, 49, 41, 41, 41, 32, 49, 32, 49, 48]⟩) := by kernel_rfl
theorem toldB23 : (orcF cfg 399).clo 9 [.str ⟨#[40, 114, 101, 99, 32, 40, 97, 32, 84, 121, 41, 32, 73, 110, 116, 32, 40, 105, 32, 106, 32, 40, 45, 62, 32, 106, 32, 106, 41, 41, 32, 110, 41]⟩] = some (.str ⟨#[40, 49, 51, 32, 49, 52, 32, 49, 53, 32, 40, 49, 54, 32, 118, 48, 32, 118, 48, 41, 32, 118, 53, 41, 32, 49, 32, 49, 52]⟩) := by kernel_rfl
end Go.Proofs.YtdfeffddghpaoaaGreatDoor
