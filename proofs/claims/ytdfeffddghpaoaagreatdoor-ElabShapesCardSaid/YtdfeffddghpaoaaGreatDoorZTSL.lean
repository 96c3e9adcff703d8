/- ElabShapes: what is told of the shapes 22 and 23, wherever they stand. -/
import Derived.Test.YtdfeffddghpaoaaGreatDoorZ2
set_option linter.unusedVariables false
set_option linter.unusedSectionVars false
set_option linter.unusedSimpArgs false
set_option linter.unnecessarySimpa false
namespace Go.Proofs.YtdfeffddghpaoaaGreatDoor
open Go Go.Ev
theorem toldS22_0 : (orcF cfg 399).clo 9 [.str ⟨#[40, 116, 104, 101, 32, 78, 97, 116, 41]⟩] = some (.str ⟨#[102, 111, 114, 109]⟩) := by kernel_rfl
theorem toldS22_1 : (orcF cfg 399).clo 9 [.str ⟨#[40, 115, 117, 99, 32, 40, 116, 104, 101, 32, 78, 97, 116, 41, 41]⟩] = some (.str ⟨#[102, 111, 114, 109]⟩) := by kernel_rfl
theorem toldS22_2 : (orcF cfg 399).clo 9 [.str ⟨#[40, 97, 100, 100, 32, 40, 116, 104, 101, 32, 78, 97, 116, 41, 32, 49, 41]⟩] = some (.str ⟨#[102, 111, 114, 109]⟩) := by kernel_rfl
theorem toldS22_3 : (orcF cfg 399).clo 9 [.str ⟨#[40, 102, 110, 32, 40, 113, 32, 78, 97, 116, 41, 32, 40, 116, 104, 101, 32, 78, 97, 116, 41, 41]⟩] = some (.str ⟨#[102, 111, 114, 109]⟩) := by kernel_rfl
theorem toldS22_4 : (orcF cfg 399).clo 9 [.str ⟨#[40, 108, 101, 116, 32, 40, 113, 32, 49, 41, 32, 40, 116, 104, 101, 32, 78, 97, 116, 41, 41]⟩] = some (.str ⟨#[102, 111, 114, 109]⟩) := by kernel_rfl
theorem toldS22_5 : (orcF cfg 399).clo 9 [.str ⟨#[40, 102, 32, 40, 116, 104, 101, 32, 78, 97, 116, 41, 41]⟩] = some (.str ⟨#[102, 111, 114, 109]⟩) := by kernel_rfl
theorem toldS23_0 : (orcF cfg 399).clo 9 [.str ⟨#[40, 114, 101, 99, 32, 40, 97, 32, 78, 97, 116, 41, 32, 110, 32, 40, 105, 32, 106, 41, 32, 50, 41]⟩] = some (.str ⟨#[102, 111, 114, 109]⟩) := by kernel_rfl
theorem toldS23_1 : (orcF cfg 399).clo 9 [.str ⟨#[40, 115, 117, 99, 32, 40, 114, 101, 99, 32, 40, 97, 32, 78, 97, 116, 41, 32, 110, 32, 40, 105, 32, 106, 41, 32, 50, 41, 41]⟩] = some (.str ⟨#[102, 111, 114, 109]⟩) := by kernel_rfl
theorem toldS23_2 : (orcF cfg 399).clo 9 [.str ⟨#[40, 97, 100, 100, 32, 40, 114, 101, 99, 32, 40, 97, 32, 78, 97, 116, 41, 32, 110, 32, 40, 105, 32, 106, 41, 32, 50, 41, 32, 49, 41]⟩] = some (.str ⟨#[102, 111, 114, 109]⟩) := by kernel_rfl
theorem toldS23_3 : (orcF cfg 399).clo 9 [.str ⟨#[40, 102, 110, 32, 40, 113, 32, 78, 97, 116, 41, 32, 40, 114, 101, 99, 32, 40, 97, 32, 78, 97, 116, 41, 32, 110, 32, 40, 105, 32, 106, 41, 32, 50, 41, 41]⟩] = some (.str ⟨#[102, 111, 114, 109]⟩) := by kernel_rfl
theorem toldS23_4 : (orcF cfg 399).clo 9 [.str ⟨#[40, 108, 101, 116, 32, 40, 113, 32, 49, 41, 32, 40, 114, 101, 99, 32, 40, 97, 32, 78, 97, 116, 41, 32, 110, 32, 40, 105, 32, 106, 41, 32, 50, 41, 41]⟩] = some (.str ⟨#[102, 111, 114, 109]⟩) := by kernel_rfl
theorem toldS23_5 : (orcF cfg 399).clo 9 [.str ⟨#[40, 102, 32, 40, 114, 101, 99, 32, 40, 97, 32, 78, 97, 116, 41, 32, 110, 32, 40, 105, 32, 106, 41, 32, 50, 41, 41]⟩] = some (.str ⟨#[102, 111, 114, 109]⟩) := by kernel_rfl
end Go.Proofs.YtdfeffddghpaoaaGreatDoor
