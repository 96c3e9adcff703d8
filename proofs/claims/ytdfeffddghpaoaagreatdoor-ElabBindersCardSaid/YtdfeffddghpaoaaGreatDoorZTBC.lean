/- ElabBinders: what is told of the forms 24 to 31. -/
import Derived.Test.YtdfeffddghpaoaaGreatDoorZ2
set_option linter.unusedVariables false
set_option linter.unusedSectionVars false
set_option linter.unusedSimpArgs false
set_option linter.unnecessarySimpa false
namespace Go.Proofs.YtdfeffddghpaoaaGreatDoor
open Go Go.Ev
theorem toldB24 : (orcF cfg 399).clo 9 [.str ⟨#[40, 114, 101, 99, 32, 40, 97, 32, 78, 97, 116, 41, 32, 120, 32, 40, 105, 32, 106, 32, 106, 41, 32, 110, 41]⟩] = some (.str ⟨#[115, 116, 97, 103, 101]⟩) := by kernel_rfl
theorem toldB25 : (orcF cfg 399).clo 9 [.str ⟨#[40, 114, 101, 99, 32, 40, 97, 32, 110, 41, 32, 110, 32, 40, 105, 32, 106, 32, 106, 41, 32, 110, 41]⟩] = some (.str ⟨#[115, 104, 97, 112, 101]⟩) := by kernel_rfl
theorem toldB26 : (orcF cfg 399).clo 9 [.str ⟨#[40, 116, 104, 101, 32, 78, 97, 116, 32, 40, 102, 110, 32, 97, 32, 97, 41, 41]⟩] = some (.str ⟨#[115, 104, 97, 112, 101]⟩) := by kernel_rfl
theorem toldB27 : (orcF cfg 399).clo 9 [.str ⟨#[40, 116, 104, 101, 32, 73, 110, 116, 32, 40, 112, 97, 105, 114, 32, 49, 32, 50, 41, 41]⟩] = some (.str ⟨#[115, 104, 97, 112, 101]⟩) := by kernel_rfl
theorem toldB28 : (orcF cfg 399).clo 9 [.str ⟨#[40, 116, 104, 101, 32, 78, 97, 116, 32, 40, 105, 102, 32, 120, 32, 49, 32, 50, 41, 41]⟩] = some (.str ⟨#[115, 116, 97, 103, 101]⟩) := by kernel_rfl
theorem toldB29 : (orcF cfg 399).clo 9 [.str ⟨#[40, 40, 102, 110, 32, 40, 97, 32, 78, 97, 116, 41, 32, 40, 102, 32, 97, 41, 41, 32, 110, 41]⟩] = some (.str ⟨#[40, 53, 32, 40, 52, 32, 49, 48, 32, 40, 53, 32, 118, 53, 32, 118, 48, 41, 41, 32, 118, 53, 41, 32, 49, 32, 49, 48]⟩) := by kernel_rfl
theorem toldB30 : (orcF cfg 399).clo 9 [.str ⟨#[40, 40, 102, 110, 32, 40, 97, 32, 73, 110, 116, 41, 32, 40, 97, 100, 100, 32, 97, 32, 49, 41, 41, 32, 120, 41]⟩] = some (.str ⟨#[40, 50, 49, 32, 40, 50, 48, 32, 49, 53, 32, 40, 50, 54, 47, 48, 32, 118, 48, 32, 105, 49, 41, 41, 32, 118, 49, 41, 32, 48, 32, 49, 53]⟩) := by kernel_rfl
theorem toldB31 : (orcF cfg 399).clo 9 [.str ⟨#[40, 40, 102, 110, 32, 40, 97, 32, 85, 48, 41, 32, 40, 102, 110, 32, 40, 98, 32, 97, 41, 32, 98, 41, 41, 32, 78, 97, 116, 32, 50, 41]⟩] = some (.str ⟨#[40, 53, 32, 40, 53, 32, 40, 52, 32, 85, 48, 32, 40, 52, 32, 118, 48, 32, 118, 48, 41, 41, 32, 49, 48, 41, 32, 40, 49, 50, 32, 40, 49, 50, 32, 49, 49, 41, 41, 41, 32, 49, 32, 49, 48]⟩) := by kernel_rfl
end Go.Proofs.YtdfeffddghpaoaaGreatDoor
