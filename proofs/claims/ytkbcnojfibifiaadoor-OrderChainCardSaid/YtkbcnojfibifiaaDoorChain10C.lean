/- OrderChain: what the interpreter answers at these numbers of definitions. -/
import Derived.Test.YtkbcnojfibifiaaDoorC2
import Derived.KernelRfl
set_option linter.unusedVariables false
set_option linter.unusedSectionVars false
set_option linter.unusedSimpArgs false
set_option linter.unnecessarySimpa false
namespace Go.Proofs.YtkbcnojfibifiaaDoor
open Go Go.Ev
theorem chain10_24 (n : Int) : closed (evBodyF cfg (ov (orcF cfg 400) (some (.bool true)) (some (.int .i64 24))) 5 [.c (.int .i64 n), .c (.bool true), .c (.bool false)] []) = some (.bool true) := by kernel_rfl
theorem chain10_25 (n : Int) : closed (evBodyF cfg (ov (orcF cfg 400) (some (.bool true)) (some (.int .i64 25))) 5 [.c (.int .i64 n), .c (.bool true), .c (.bool false)] []) = some (.bool true) := by kernel_rfl
theorem chain10_26 (n : Int) : closed (evBodyF cfg (ov (orcF cfg 400) (some (.bool true)) (some (.int .i64 26))) 5 [.c (.int .i64 n), .c (.bool true), .c (.bool false)] []) = some (.bool true) := by kernel_rfl
theorem chain10_27 (n : Int) : closed (evBodyF cfg (ov (orcF cfg 400) (some (.bool true)) (some (.int .i64 27))) 5 [.c (.int .i64 n), .c (.bool true), .c (.bool false)] []) = some (.bool true) := by kernel_rfl
end Go.Proofs.YtkbcnojfibifiaaDoor
