/- OrderChain: what the interpreter answers at these numbers of definitions. -/
import Derived.Test.YtkbcnojfibifiaaDoorC2
import Derived.KernelRfl
set_option linter.unusedVariables false
set_option linter.unusedSectionVars false
set_option linter.unusedSimpArgs false
set_option linter.unnecessarySimpa false
namespace Go.Proofs.YtkbcnojfibifiaaDoor
open Go Go.Ev
theorem chain11_18 (n : Int) : closed (evBodyF cfg (ov (orcF cfg 400) (some (.bool true)) (some (.int .i64 18))) 5 [.c (.int .i64 n), .c (.bool true), .c (.bool true)] []) = some (.bool true) := by kernel_rfl
theorem chain11_19 (n : Int) : closed (evBodyF cfg (ov (orcF cfg 400) (some (.bool true)) (some (.int .i64 19))) 5 [.c (.int .i64 n), .c (.bool true), .c (.bool true)] []) = some (.bool true) := by kernel_rfl
theorem chain11_20 (n : Int) : closed (evBodyF cfg (ov (orcF cfg 400) (some (.bool true)) (some (.int .i64 20))) 5 [.c (.int .i64 n), .c (.bool true), .c (.bool true)] []) = some (.bool true) := by kernel_rfl
theorem chain11_21 (n : Int) : closed (evBodyF cfg (ov (orcF cfg 400) (some (.bool true)) (some (.int .i64 21))) 5 [.c (.int .i64 n), .c (.bool true), .c (.bool true)] []) = some (.bool true) := by kernel_rfl
theorem chain11_22 (n : Int) : closed (evBodyF cfg (ov (orcF cfg 400) (some (.bool true)) (some (.int .i64 22))) 5 [.c (.int .i64 n), .c (.bool true), .c (.bool true)] []) = some (.bool true) := by kernel_rfl
theorem chain11_23 (n : Int) : closed (evBodyF cfg (ov (orcF cfg 400) (some (.bool true)) (some (.int .i64 23))) 5 [.c (.int .i64 n), .c (.bool true), .c (.bool true)] []) = some (.bool true) := by kernel_rfl
end Go.Proofs.YtkbcnojfibifiaaDoor
