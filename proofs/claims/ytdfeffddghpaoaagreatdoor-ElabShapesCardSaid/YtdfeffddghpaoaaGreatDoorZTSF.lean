/- ElabShapes: what is told of the shapes 10 and 11, wherever they stand. -/
import Derived.Test.YtdfeffddghpaoaaGreatDoorZ2
set_option linter.unusedVariables false
set_option linter.unusedSectionVars false
set_option linter.unusedSimpArgs false
set_option linter.unnecessarySimpa false
namespace Go.Proofs.YtdfeffddghpaoaaGreatDoor
open Go Go.Ev
theorem toldS10_0 : (orcF cfg 399).clo 9 [.str ⟨#[40, 112, 105, 32, 97, 32, 78, 97, 116, 41]⟩] = some (.str ⟨#[102, 111, 114, 109]⟩) := by kernel_rfl
theorem toldS10_1 : (orcF cfg 399).clo 9 [.str ⟨#[40, 115, 117, 99, 32, 40, 112, 105, 32, 97, 32, 78, 97, 116, 41, 41]⟩] = some (.str ⟨#[102, 111, 114, 109]⟩) := by kernel_rfl
theorem toldS10_2 : (orcF cfg 399).clo 9 [.str ⟨#[40, 97, 100, 100, 32, 40, 112, 105, 32, 97, 32, 78, 97, 116, 41, 32, 49, 41]⟩] = some (.str ⟨#[102, 111, 114, 109]⟩) := by kernel_rfl
theorem toldS10_3 : (orcF cfg 399).clo 9 [.str ⟨#[40, 102, 110, 32, 40, 113, 32, 78, 97, 116, 41, 32, 40, 112, 105, 32, 97, 32, 78, 97, 116, 41, 41]⟩] = some (.str ⟨#[102, 111, 114, 109]⟩) := by kernel_rfl
theorem toldS10_4 : (orcF cfg 399).clo 9 [.str ⟨#[40, 108, 101, 116, 32, 40, 113, 32, 49, 41, 32, 40, 112, 105, 32, 97, 32, 78, 97, 116, 41, 41]⟩] = some (.str ⟨#[102, 111, 114, 109]⟩) := by kernel_rfl
theorem toldS10_5 : (orcF cfg 399).clo 9 [.str ⟨#[40, 102, 32, 40, 112, 105, 32, 97, 32, 78, 97, 116, 41, 41]⟩] = some (.str ⟨#[102, 111, 114, 109]⟩) := by kernel_rfl
theorem toldS11_0 : (orcF cfg 399).clo 9 [.str ⟨#[40, 112, 97, 105, 114, 32, 49, 41]⟩] = some (.str ⟨#[102, 111, 114, 109]⟩) := by kernel_rfl
theorem toldS11_1 : (orcF cfg 399).clo 9 [.str ⟨#[40, 115, 117, 99, 32, 40, 112, 97, 105, 114, 32, 49, 41, 41]⟩] = some (.str ⟨#[102, 111, 114, 109]⟩) := by kernel_rfl
theorem toldS11_2 : (orcF cfg 399).clo 9 [.str ⟨#[40, 97, 100, 100, 32, 40, 112, 97, 105, 114, 32, 49, 41, 32, 49, 41]⟩] = some (.str ⟨#[102, 111, 114, 109]⟩) := by kernel_rfl
theorem toldS11_3 : (orcF cfg 399).clo 9 [.str ⟨#[40, 102, 110, 32, 40, 113, 32, 78, 97, 116, 41, 32, 40, 112, 97, 105, 114, 32, 49, 41, 41]⟩] = some (.str ⟨#[102, 111, 114, 109]⟩) := by kernel_rfl
theorem toldS11_4 : (orcF cfg 399).clo 9 [.str ⟨#[40, 108, 101, 116, 32, 40, 113, 32, 49, 41, 32, 40, 112, 97, 105, 114, 32, 49, 41, 41]⟩] = some (.str ⟨#[102, 111, 114, 109]⟩) := by kernel_rfl
theorem toldS11_5 : (orcF cfg 399).clo 9 [.str ⟨#[40, 102, 32, 40, 112, 97, 105, 114, 32, 49, 41, 41]⟩] = some (.str ⟨#[102, 111, 114, 109]⟩) := by kernel_rfl
end Go.Proofs.YtdfeffddghpaoaaGreatDoor
