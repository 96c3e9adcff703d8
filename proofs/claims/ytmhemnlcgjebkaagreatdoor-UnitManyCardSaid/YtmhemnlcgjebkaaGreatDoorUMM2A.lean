/- Calls of stage 2. -/
import Derived.Test.YtmhemnlcgjebkaaGreatDoorUMT1
set_option linter.unusedVariables false
set_option linter.unusedSectionVars false
set_option linter.unusedSimpArgs false
set_option linter.unnecessarySimpa false
namespace Go.Proofs.YtmhemnlcgjebkaaGreatDoor
open Go Go.Ev
theorem q5 : Known 41 x5 y5 := knownT all1 (n := 399) (by kernel_rfl)
theorem q35 : Known 52 x35 y35 := knownT all1 (n := 399) (by kernel_rfl)
theorem q48 : Known 52 x48 y48 := knownT all1 (n := 399) (by kernel_rfl)
theorem q61 : Known 52 x61 y61 := knownT all1 (n := 399) (by kernel_rfl)
theorem q74 : Known 52 x74 y74 := knownT all1 (n := 399) (by kernel_rfl)
theorem q87 : Known 52 x87 y87 := knownT all1 (n := 399) (by kernel_rfl)
theorem q100 : Known 52 x100 y100 := knownT all1 (n := 399) (by kernel_rfl)
theorem q113 : Known 52 x113 y113 := knownT all1 (n := 399) (by kernel_rfl)
theorem q126 : Known 52 x126 y126 := knownT all1 (n := 399) (by kernel_rfl)
theorem q139 : Known 52 x139 y139 := knownT all1 (n := 399) (by kernel_rfl)
theorem q152 : Known 52 x152 y152 := knownT all1 (n := 399) (by kernel_rfl)
theorem q165 : Known 52 x165 y165 := knownT all1 (n := 399) (by kernel_rfl)
theorem q178 : Known 52 x178 y178 := knownT all1 (n := 399) (by kernel_rfl)
theorem q191 : Known 52 x191 y191 := knownT all1 (n := 399) (by kernel_rfl)
theorem q204 : Known 52 x204 y204 := knownT all1 (n := 399) (by kernel_rfl)
theorem q217 : Known 52 x217 y217 := knownT all1 (n := 399) (by kernel_rfl)
theorem q230 : Known 52 x230 y230 := knownT all1 (n := 399) (by kernel_rfl)
theorem q243 : Known 52 x243 y243 := knownT all1 (n := 399) (by kernel_rfl)
theorem q256 : Known 52 x256 y256 := knownT all1 (n := 399) (by kernel_rfl)
end Go.Proofs.YtmhemnlcgjebkaaGreatDoor
