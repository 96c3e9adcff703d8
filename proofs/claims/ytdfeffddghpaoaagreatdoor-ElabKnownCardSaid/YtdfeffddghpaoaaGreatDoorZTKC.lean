/- ElabKnown: what is told of the forms 24 to 32. -/
import Derived.Test.YtdfeffddghpaoaaGreatDoorZ2
set_option linter.unusedVariables false
set_option linter.unusedSectionVars false
set_option linter.unusedSimpArgs false
set_option linter.unnecessarySimpa false
namespace Go.Proofs.YtdfeffddghpaoaaGreatDoor
open Go Go.Ev
theorem toldK24 : (orcF cfg 399).clo 9 [.str ⟨#[40, 104, 32, 120, 41]⟩] = some (.str ⟨#[40, 50, 49, 32, 118, 48, 32, 118, 49, 41, 32, 48, 32, 49, 53]⟩) := by kernel_rfl
theorem toldK25 : (orcF cfg 399).clo 9 [.str ⟨#[40, 104, 32, 99, 41]⟩] = some (.str ⟨#[40, 50, 49, 32, 118, 48, 32, 40, 51, 48, 32, 118, 51, 41, 41, 32, 48, 32, 49, 53]⟩) := by kernel_rfl
theorem toldK26 : (orcF cfg 399).clo 9 [.str ⟨#[40, 104, 32, 55, 41]⟩] = some (.str ⟨#[40, 50, 49, 32, 118, 48, 32, 105, 55, 41, 32, 48, 32, 49, 53]⟩) := by kernel_rfl
theorem toldK27 : (orcF cfg 399).clo 9 [.str ⟨#[40, 107, 32, 120, 41]⟩] = some (.str ⟨#[40, 50, 49, 32, 40, 51, 48, 32, 118, 50, 41, 32, 118, 49, 41, 32, 48, 32, 49, 53]⟩) := by kernel_rfl
theorem toldK28 : (orcF cfg 399).clo 9 [.str ⟨#[40, 107, 32, 99, 41]⟩] = some (.str ⟨#[40, 50, 49, 32, 40, 51, 48, 32, 118, 50, 41, 32, 40, 51, 48, 32, 118, 51, 41, 41, 32, 48, 32, 49, 53]⟩) := by kernel_rfl
theorem toldK29 : (orcF cfg 399).clo 9 [.str ⟨#[40, 104, 32, 110, 41]⟩] = some (.str ⟨#[115, 116, 97, 103, 101]⟩) := by kernel_rfl
theorem toldK30 : (orcF cfg 399).clo 9 [.str ⟨#[40, 110, 32, 120, 41]⟩] = some (.str ⟨#[115, 116, 97, 103, 101]⟩) := by kernel_rfl
theorem toldK31 : (orcF cfg 399).clo 9 [.str ⟨#[40, 120, 32, 120, 41]⟩] = some (.str ⟨#[115, 104, 97, 112, 101]⟩) := by kernel_rfl
theorem toldK32 : (orcF cfg 399).clo 9 [.str ⟨#[40, 99, 32, 120, 41]⟩] = some (.str ⟨#[115, 104, 97, 112, 101]⟩) := by kernel_rfl
end Go.Proofs.YtdfeffddghpaoaaGreatDoor
