/- ElabShapes: what is told of the shapes 24 and 25, wherever they stand. -/
import Derived.Test.YtdfeffddghpaoaaGreatDoorZ2
set_option linter.unusedVariables false
set_option linter.unusedSectionVars false
set_option linter.unusedSimpArgs false
set_option linter.unnecessarySimpa false
namespace Go.Proofs.YtdfeffddghpaoaaGreatDoor
open Go Go.Ev
theorem toldS24_0 : (orcF cfg 399).clo 9 [.str ⟨#[40, 114, 101, 99, 32, 97, 32, 110, 32, 40, 105, 32, 106, 32, 106, 41, 32, 50, 41]⟩] = some (.str ⟨#[102, 111, 114, 109]⟩) := by kernel_rfl
theorem toldS24_1 : (orcF cfg 399).clo 9 [.str ⟨#[40, 115, 117, 99, 32, 40, 114, 101, 99, 32, 97, 32, 110, 32, 40, 105, 32, 106, 32, 106, 41, 32, 50, 41, 41]⟩] = some (.str ⟨#[102, 111, 114, 109]⟩) := by kernel_rfl
theorem toldS24_2 : (orcF cfg 399).clo 9 [.str ⟨#[40, 97, 100, 100, 32, 40, 114, 101, 99, 32, 97, 32, 110, 32, 40, 105, 32, 106, 32, 106, 41, 32, 50, 41, 32, 49, 41]⟩] = some (.str ⟨#[102, 111, 114, 109]⟩) := by kernel_rfl
theorem toldS24_3 : (orcF cfg 399).clo 9 [.str ⟨#[40, 102, 110, 32, 40, 113, 32, 78, 97, 116, 41, 32, 40, 114, 101, 99, 32, 97, 32, 110, 32, 40, 105, 32, 106, 32, 106, 41, 32, 50, 41, 41]⟩] = some (.str ⟨#[102, 111, 114, 109]⟩) := by kernel_rfl
theorem toldS24_4 : (orcF cfg 399).clo 9 [.str ⟨#[40, 108, 101, 116, 32, 40, 113, 32, 49, 41, 32, 40, 114, 101, 99, 32, 97, 32, 110, 32, 40, 105, 32, 106, 32, 106, 41, 32, 50, 41, 41]⟩] = some (.str ⟨#[102, 111, 114, 109]⟩) := by kernel_rfl
theorem toldS24_5 : (orcF cfg 399).clo 9 [.str ⟨#[40, 102, 32, 40, 114, 101, 99, 32, 97, 32, 110, 32, 40, 105, 32, 106, 32, 106, 41, 32, 50, 41, 41]⟩] = some (.str ⟨#[102, 111, 114, 109]⟩) := by kernel_rfl
theorem toldS25_0 : (orcF cfg 399).clo 9 [.str ⟨#[40, 114, 101, 99, 32, 40, 97, 32, 78, 97, 116, 41, 32, 110, 32, 40, 105, 32, 122, 101, 114, 111, 32, 106, 41, 32, 50, 41]⟩] = some (.str ⟨#[102, 111, 114, 109]⟩) := by kernel_rfl
theorem toldS25_1 : (orcF cfg 399).clo 9 [.str ⟨#[40, 115, 117, 99, 32, 40, 114, 101, 99, 32, 40, 97, 32, 78, 97, 116, 41, 32, 110, 32, 40, 105, 32, 122, 101, 114, 111, 32, 106, 41, 32, 50, 41, 41]⟩] = some (.str ⟨#[102, 111, 114, 109]⟩) := by kernel_rfl
theorem toldS25_2 : (orcF cfg 399).clo 9 [.str ⟨#[40, 97, 100, 100, 32, 40, 114, 101, 99, 32, 40, 97, 32, 78, 97, 116, 41, 32, 110, 32, 40, 105, 32, 122, 101, 114, 111, 32, 106, 41, 32, 50, 41, 32, 49, 41]⟩] = some (.str ⟨#[102, 111, 114, 109]⟩) := by kernel_rfl
theorem toldS25_3 : (orcF cfg 399).clo 9 [.str ⟨#[40, 102, 110, 32, 40, 113, 32, 78, 97, 116, 41, 32, 40, 114, 101, 99, 32, 40, 97, 32, 78, 97, 116, 41, 32, 110, 32, 40, 105, 32, 122, 101, 114, 111, 32, 106, 41, 32, 50, 41, 41]⟩] = some (.str ⟨#[102, 111, 114, 109]⟩) := by kernel_rfl
theorem toldS25_4 : (orcF cfg 399).clo 9 [.str ⟨#[40, 108, 101, 116, 32, 40, 113, 32, 49, 41, 32, 40, 114, 101, 99, 32, 40, 97, 32, 78, 97, 116, 41, 32, 110, 32, 40, 105, 32, 122, 101, 114, 111, 32, 106, 41, 32, 50, 41, 41]⟩] = some (.str ⟨#[102, 111, 114, 109]⟩) := by kernel_rfl
theorem toldS25_5 : (orcF cfg 399).clo 9 [.str ⟨#[40, 102, 32, 40, 114, 101, 99, 32, 40, 97, 32, 78, 97, 116, 41, 32, 110, 32, 40, 105, 32, 122, 101, 114, 111, 32, 106, 41, 32, 50, 41, 41]⟩] = some (.str ⟨#[102, 111, 114, 109]⟩) := by kernel_rfl
end Go.Proofs.YtdfeffddghpaoaaGreatDoor
