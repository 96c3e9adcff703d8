/- UnitKnown: what is told of the texts 12 to 15. -/
import Derived.Test.YtgmgdijphklogaaGreatDoorU2
set_option linter.unusedVariables false
set_option linter.unusedSectionVars false
set_option linter.unusedSimpArgs false
set_option linter.unnecessarySimpa false
namespace Go.Proofs.YtgmgdijphklogaaGreatDoor
open Go Go.Ev
theorem toldK12 : (orcF cfg 399).clo 14 [.str ⟨#[97]⟩] = some (.str ⟨#[102, 111, 114, 109]⟩) := by kernel_rfl
theorem toldK13 : (orcF cfg 399).clo 14 [.str ⟨#[40, 97, 32, 98, 32, 99, 41]⟩] = some (.str ⟨#[102, 111, 114, 109]⟩) := by kernel_rfl
theorem toldK14 : (orcF cfg 399).clo 14 [.str ⟨#[40, 100, 101, 102, 32, 97, 32, 122, 122, 41]⟩] = some (.str ⟨#[110, 97, 109, 101]⟩) := by kernel_rfl
theorem toldK15 : (orcF cfg 399).clo 14 [.str ⟨#[40, 100, 101, 102, 32, 116, 32, 84, 121, 32, 73, 110, 116, 41, 32, 40, 100, 101, 102, 32, 120, 32, 116, 32, 51, 41]⟩] = some (.str ⟨#[116, 49, 32, 49, 53, 32, 49, 52, 59, 120, 48, 32, 105, 51, 32, 49, 53, 59]⟩) := by kernel_rfl
end Go.Proofs.YtgmgdijphklogaaGreatDoor
