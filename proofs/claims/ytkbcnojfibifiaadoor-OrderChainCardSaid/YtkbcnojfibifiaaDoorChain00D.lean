/- OrderChain: what the interpreter answers at these numbers of definitions. -/
import Derived.Test.YtkbcnojfibifiaaDoorC2
import Derived.KernelRfl
set_option linter.unusedVariables false
set_option linter.unusedSectionVars false
set_option linter.unusedSimpArgs false
set_option linter.unnecessarySimpa false
namespace Go.Proofs.YtkbcnojfibifiaaDoor
open Go Go.Ev
theorem chain00_28 (n : Int) : closed (evBodyF cfg (ov (orcF cfg 400) (some (.bool true)) (some (.int .i64 28))) 5 [.c (.int .i64 n), .c (.bool false), .c (.bool false)] []) = some (.bool true) := by kernel_rfl
theorem chain00_29 (n : Int) : closed (evBodyF cfg (ov (orcF cfg 400) (some (.bool true)) (some (.int .i64 29))) 5 [.c (.int .i64 n), .c (.bool false), .c (.bool false)] []) = some (.bool true) := by kernel_rfl
theorem chain00_30 (n : Int) : closed (evBodyF cfg (ov (orcF cfg 400) (some (.bool true)) (some (.int .i64 30))) 5 [.c (.int .i64 n), .c (.bool false), .c (.bool false)] []) = some (.bool true) := by kernel_rfl
end Go.Proofs.YtkbcnojfibifiaaDoor
