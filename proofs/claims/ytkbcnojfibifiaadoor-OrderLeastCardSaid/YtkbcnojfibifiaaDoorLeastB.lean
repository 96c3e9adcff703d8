/- OrderLeast: what the interpreter answers at these numbers of definitions. -/
import Derived.Test.YtkbcnojfibifiaaDoorD2
import Derived.KernelRfl
set_option linter.unusedVariables false
set_option linter.unusedSectionVars false
set_option linter.unusedSimpArgs false
set_option linter.unnecessarySimpa false
namespace Go.Proofs.YtkbcnojfibifiaaDoor
open Go Go.Ev
theorem least18 (n : Int) : closed (evBodyF cfg (ov (orcF cfg 400) (some (.bool true)) (some (.int .i64 18))) 3 [.c (.int .i64 n)] []) = some (.bool true) := by kernel_rfl
theorem least19 (n : Int) : closed (evBodyF cfg (ov (orcF cfg 400) (some (.bool true)) (some (.int .i64 19))) 3 [.c (.int .i64 n)] []) = some (.bool true) := by kernel_rfl
theorem least20 (n : Int) : closed (evBodyF cfg (ov (orcF cfg 400) (some (.bool true)) (some (.int .i64 20))) 3 [.c (.int .i64 n)] []) = some (.bool true) := by kernel_rfl
theorem least21 (n : Int) : closed (evBodyF cfg (ov (orcF cfg 400) (some (.bool true)) (some (.int .i64 21))) 3 [.c (.int .i64 n)] []) = some (.bool true) := by kernel_rfl
theorem least22 (n : Int) : closed (evBodyF cfg (ov (orcF cfg 400) (some (.bool true)) (some (.int .i64 22))) 3 [.c (.int .i64 n)] []) = some (.bool true) := by kernel_rfl
theorem least23 (n : Int) : closed (evBodyF cfg (ov (orcF cfg 400) (some (.bool true)) (some (.int .i64 23))) 3 [.c (.int .i64 n)] []) = some (.bool true) := by kernel_rfl
end Go.Proofs.YtkbcnojfibifiaaDoor
