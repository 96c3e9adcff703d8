/- OrderLeast: what the interpreter answers at these numbers of definitions. -/
import Derived.Test.YtkbcnojfibifiaaDoorD2
import Derived.KernelRfl
set_option linter.unusedVariables false
set_option linter.unusedSectionVars false
set_option linter.unusedSimpArgs false
set_option linter.unnecessarySimpa false
namespace Go.Proofs.YtkbcnojfibifiaaDoor
open Go Go.Ev
theorem least0 (n : Int) : closed (evBodyF cfg (ov (orcF cfg 400) (some (.bool true)) (some (.int .i64 0))) 3 [.c (.int .i64 n)] []) = some (.bool true) := by kernel_rfl
theorem least1 (n : Int) : closed (evBodyF cfg (ov (orcF cfg 400) (some (.bool true)) (some (.int .i64 1))) 3 [.c (.int .i64 n)] []) = some (.bool true) := by kernel_rfl
theorem least2 (n : Int) : closed (evBodyF cfg (ov (orcF cfg 400) (some (.bool true)) (some (.int .i64 2))) 3 [.c (.int .i64 n)] []) = some (.bool true) := by kernel_rfl
theorem least3 (n : Int) : closed (evBodyF cfg (ov (orcF cfg 400) (some (.bool true)) (some (.int .i64 3))) 3 [.c (.int .i64 n)] []) = some (.bool true) := by kernel_rfl
theorem least4 (n : Int) : closed (evBodyF cfg (ov (orcF cfg 400) (some (.bool true)) (some (.int .i64 4))) 3 [.c (.int .i64 n)] []) = some (.bool true) := by kernel_rfl
theorem least5 (n : Int) : closed (evBodyF cfg (ov (orcF cfg 400) (some (.bool true)) (some (.int .i64 5))) 3 [.c (.int .i64 n)] []) = some (.bool true) := by kernel_rfl
theorem least6 (n : Int) : closed (evBodyF cfg (ov (orcF cfg 400) (some (.bool true)) (some (.int .i64 6))) 3 [.c (.int .i64 n)] []) = some (.bool true) := by kernel_rfl
theorem least7 (n : Int) : closed (evBodyF cfg (ov (orcF cfg 400) (some (.bool true)) (some (.int .i64 7))) 3 [.c (.int .i64 n)] []) = some (.bool true) := by kernel_rfl
theorem least8 (n : Int) : closed (evBodyF cfg (ov (orcF cfg 400) (some (.bool true)) (some (.int .i64 8))) 3 [.c (.int .i64 n)] []) = some (.bool true) := by kernel_rfl
theorem least9 (n : Int) : closed (evBodyF cfg (ov (orcF cfg 400) (some (.bool true)) (some (.int .i64 9))) 3 [.c (.int .i64 n)] []) = some (.bool true) := by kernel_rfl
theorem least10 (n : Int) : closed (evBodyF cfg (ov (orcF cfg 400) (some (.bool true)) (some (.int .i64 10))) 3 [.c (.int .i64 n)] []) = some (.bool true) := by kernel_rfl
theorem least11 (n : Int) : closed (evBodyF cfg (ov (orcF cfg 400) (some (.bool true)) (some (.int .i64 11))) 3 [.c (.int .i64 n)] []) = some (.bool true) := by kernel_rfl
theorem least12 (n : Int) : closed (evBodyF cfg (ov (orcF cfg 400) (some (.bool true)) (some (.int .i64 12))) 3 [.c (.int .i64 n)] []) = some (.bool true) := by kernel_rfl
theorem least13 (n : Int) : closed (evBodyF cfg (ov (orcF cfg 400) (some (.bool true)) (some (.int .i64 13))) 3 [.c (.int .i64 n)] []) = some (.bool true) := by kernel_rfl
theorem least14 (n : Int) : closed (evBodyF cfg (ov (orcF cfg 400) (some (.bool true)) (some (.int .i64 14))) 3 [.c (.int .i64 n)] []) = some (.bool true) := by kernel_rfl
theorem least15 (n : Int) : closed (evBodyF cfg (ov (orcF cfg 400) (some (.bool true)) (some (.int .i64 15))) 3 [.c (.int .i64 n)] []) = some (.bool true) := by kernel_rfl
theorem least16 (n : Int) : closed (evBodyF cfg (ov (orcF cfg 400) (some (.bool true)) (some (.int .i64 16))) 3 [.c (.int .i64 n)] []) = some (.bool true) := by kernel_rfl
theorem least17 (n : Int) : closed (evBodyF cfg (ov (orcF cfg 400) (some (.bool true)) (some (.int .i64 17))) 3 [.c (.int .i64 n)] []) = some (.bool true) := by kernel_rfl
theorem least31 (n : Int) : closed (evBodyF cfg (ov (orcF cfg 400) (some (.bool true)) (some (.int .i64 31))) 3 [.c (.int .i64 n)] []) = some (.bool true) := by kernel_rfl
theorem least32 (n : Int) : closed (evBodyF cfg (ov (orcF cfg 400) (some (.bool true)) (some (.int .i64 32))) 3 [.c (.int .i64 n)] []) = some (.bool true) := by kernel_rfl
theorem least33 (n : Int) : closed (evBodyF cfg (ov (orcF cfg 400) (some (.bool true)) (some (.int .i64 33))) 3 [.c (.int .i64 n)] []) = some (.bool true) := by kernel_rfl
theorem least34 (n : Int) : closed (evBodyF cfg (ov (orcF cfg 400) (some (.bool true)) (some (.int .i64 34))) 3 [.c (.int .i64 n)] []) = some (.bool true) := by kernel_rfl
theorem least35 (n : Int) : closed (evBodyF cfg (ov (orcF cfg 400) (some (.bool true)) (some (.int .i64 35))) 3 [.c (.int .i64 n)] []) = some (.bool true) := by kernel_rfl
end Go.Proofs.YtkbcnojfibifiaaDoor
