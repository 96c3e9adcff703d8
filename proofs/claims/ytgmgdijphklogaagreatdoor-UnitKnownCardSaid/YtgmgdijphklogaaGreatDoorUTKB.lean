/- UnitKnown: what is told of the texts 4 to 7. -/
import Derived.Test.YtgmgdijphklogaaGreatDoorU2
set_option linter.unusedVariables false
set_option linter.unusedSectionVars false
set_option linter.unusedSimpArgs false
set_option linter.unnecessarySimpa false
namespace Go.Proofs.YtgmgdijphklogaaGreatDoor
open Go Go.Ev
theorem toldK4 : (orcF cfg 399).clo 14 [.str ⟨#[40, 100, 101, 102, 32, 97, 32, 73, 110, 116, 32, 120, 41, 32, 40, 100, 101, 102, 32, 120, 32, 50, 41]⟩] = some (.str ⟨#[120, 48, 32, 105, 50, 32, 49, 53, 59, 97, 48, 32, 105, 50, 32, 49, 53, 59]⟩) := by kernel_rfl
theorem toldK5 : (orcF cfg 399).clo 14 [.str ⟨#[40, 100, 101, 102, 32, 97, 32, 98, 41, 32, 40, 100, 101, 102, 32, 98, 32, 97, 41]⟩] = some (.str ⟨#[108, 111, 111, 112]⟩) := by kernel_rfl
theorem toldK6 : (orcF cfg 399).clo 14 [.str ⟨#[40, 100, 101, 102, 32, 97, 32, 97, 41]⟩] = some (.str ⟨#[108, 111, 111, 112]⟩) := by kernel_rfl
theorem toldK7 : (orcF cfg 399).clo 14 [.str ⟨#[40, 100, 101, 102, 32, 97, 32, 49, 41, 32, 40, 100, 101, 102, 32, 97, 32, 50, 41]⟩] = some (.str ⟨#[116, 119, 105, 99, 101]⟩) := by kernel_rfl
end Go.Proofs.YtgmgdijphklogaaGreatDoor
