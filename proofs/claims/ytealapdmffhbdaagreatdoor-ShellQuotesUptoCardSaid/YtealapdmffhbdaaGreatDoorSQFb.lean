/- ShellQuotes: closed facts of the row, of the card. -/
import Derived.JoinedOf
import Derived.KernelRfl
import Derived.Test.YtealapdmffhbdaaGreatDoorSQF
import Derived.Test.YtealapdmffhbdaaGreatDoorSWB
set_option linter.unusedVariables false
set_option linter.unusedSectionVars false
set_option linter.unusedSimpArgs false
set_option linter.unnecessarySimpa false
namespace Go.Proofs.YtealapdmffhbdaaGreatDoor.fnShellQuotesUpto
open Go Go.ChangeShapes Go.WideShapes Go.ChangeAt Go.RowKit
theorem fact13 : J13 Tryz.prog 4 Tryz.f4 (Rows.OpenSpec.upto Rows.shellQuotesSpec).bare Rows.shellQuotesUptoRow = true := by kernel_rfl
theorem fact14 : J14 Tryz.prog 4 Tryz.f4 (Rows.OpenSpec.upto Rows.shellQuotesSpec).bare Rows.shellQuotesUptoRow = true := by kernel_rfl
theorem fact15 : J15 Tryz.prog 4 Tryz.f4 (Rows.OpenSpec.upto Rows.shellQuotesSpec).bare Rows.shellQuotesUptoRow = true := by kernel_rfl
theorem fact16 : J16 Tryz.prog 4 Tryz.f4 (Rows.OpenSpec.upto Rows.shellQuotesSpec).bare Rows.shellQuotesUptoRow = true := by kernel_rfl
theorem fact17 : J17 Tryz.prog 4 Tryz.f4 (Rows.OpenSpec.upto Rows.shellQuotesSpec).bare Rows.shellQuotesUptoRow = true := by kernel_rfl
theorem fact18 : J18 Tryz.prog 4 Tryz.f4 (Rows.OpenSpec.upto Rows.shellQuotesSpec).bare Rows.shellQuotesUptoRow = true := by kernel_rfl
theorem fact19 : J19 Tryz.prog 4 Tryz.f4 (Rows.OpenSpec.upto Rows.shellQuotesSpec).bare Rows.shellQuotesUptoRow = true := by kernel_rfl
theorem fact20 : J20 Tryz.prog 4 Tryz.f4 (Rows.OpenSpec.upto Rows.shellQuotesSpec).bare Rows.shellQuotesUptoRow = true := by kernel_rfl
theorem fact21 : J21 Tryz.prog 4 Tryz.f4 (Rows.OpenSpec.upto Rows.shellQuotesSpec).bare Rows.shellQuotesUptoRow = true := by kernel_rfl
theorem fact22 : J22 Tryz.prog 4 Tryz.f4 (Rows.OpenSpec.upto Rows.shellQuotesSpec).bare Rows.shellQuotesUptoRow = true := by kernel_rfl
theorem fact23 : J23 Tryz.prog 4 Tryz.f4 (Rows.OpenSpec.upto Rows.shellQuotesSpec).bare Rows.shellQuotesUptoRow = true := by kernel_rfl
theorem fact24 : J24 Tryz.prog 4 Tryz.f4 (Rows.OpenSpec.upto Rows.shellQuotesSpec).bare Rows.shellQuotesUptoRow = true := by kernel_rfl
end Go.Proofs.YtealapdmffhbdaaGreatDoor.fnShellQuotesUpto
