/- OrderChain: what the interpreter answers at these numbers of definitions. -/
import Derived.Test.YtkbcnojfibifiaaDoorC2
import Derived.KernelRfl
set_option linter.unusedVariables false
set_option linter.unusedSectionVars false
set_option linter.unusedSimpArgs false
set_option linter.unnecessarySimpa false
namespace Go.Proofs.YtkbcnojfibifiaaDoor
open Go Go.Ev
theorem chain10_0 (n : Int) : closed (evBodyF cfg (ov (orcF cfg 400) (some (.bool true)) (some (.int .i64 0))) 5 [.c (.int .i64 n), .c (.bool true), .c (.bool false)] []) = some (.bool true) := by kernel_rfl
theorem chain10_1 (n : Int) : closed (evBodyF cfg (ov (orcF cfg 400) (some (.bool true)) (some (.int .i64 1))) 5 [.c (.int .i64 n), .c (.bool true), .c (.bool false)] []) = some (.bool true) := by kernel_rfl
theorem chain10_2 (n : Int) : closed (evBodyF cfg (ov (orcF cfg 400) (some (.bool true)) (some (.int .i64 2))) 5 [.c (.int .i64 n), .c (.bool true), .c (.bool false)] []) = some (.bool true) := by kernel_rfl
theorem chain10_3 (n : Int) : closed (evBodyF cfg (ov (orcF cfg 400) (some (.bool true)) (some (.int .i64 3))) 5 [.c (.int .i64 n), .c (.bool true), .c (.bool false)] []) = some (.bool true) := by kernel_rfl
theorem chain10_4 (n : Int) : closed (evBodyF cfg (ov (orcF cfg 400) (some (.bool true)) (some (.int .i64 4))) 5 [.c (.int .i64 n), .c (.bool true), .c (.bool false)] []) = some (.bool true) := by kernel_rfl
theorem chain10_5 (n : Int) : closed (evBodyF cfg (ov (orcF cfg 400) (some (.bool true)) (some (.int .i64 5))) 5 [.c (.int .i64 n), .c (.bool true), .c (.bool false)] []) = some (.bool true) := by kernel_rfl
theorem chain10_6 (n : Int) : closed (evBodyF cfg (ov (orcF cfg 400) (some (.bool true)) (some (.int .i64 6))) 5 [.c (.int .i64 n), .c (.bool true), .c (.bool false)] []) = some (.bool true) := by kernel_rfl
theorem chain10_7 (n : Int) : closed (evBodyF cfg (ov (orcF cfg 400) (some (.bool true)) (some (.int .i64 7))) 5 [.c (.int .i64 n), .c (.bool true), .c (.bool false)] []) = some (.bool true) := by kernel_rfl
theorem chain10_8 (n : Int) : closed (evBodyF cfg (ov (orcF cfg 400) (some (.bool true)) (some (.int .i64 8))) 5 [.c (.int .i64 n), .c (.bool true), .c (.bool false)] []) = some (.bool true) := by kernel_rfl
theorem chain10_9 (n : Int) : closed (evBodyF cfg (ov (orcF cfg 400) (some (.bool true)) (some (.int .i64 9))) 5 [.c (.int .i64 n), .c (.bool true), .c (.bool false)] []) = some (.bool true) := by kernel_rfl
theorem chain10_10 (n : Int) : closed (evBodyF cfg (ov (orcF cfg 400) (some (.bool true)) (some (.int .i64 10))) 5 [.c (.int .i64 n), .c (.bool true), .c (.bool false)] []) = some (.bool true) := by kernel_rfl
theorem chain10_11 (n : Int) : closed (evBodyF cfg (ov (orcF cfg 400) (some (.bool true)) (some (.int .i64 11))) 5 [.c (.int .i64 n), .c (.bool true), .c (.bool false)] []) = some (.bool true) := by kernel_rfl
theorem chain10_12 (n : Int) : closed (evBodyF cfg (ov (orcF cfg 400) (some (.bool true)) (some (.int .i64 12))) 5 [.c (.int .i64 n), .c (.bool true), .c (.bool false)] []) = some (.bool true) := by kernel_rfl
theorem chain10_13 (n : Int) : closed (evBodyF cfg (ov (orcF cfg 400) (some (.bool true)) (some (.int .i64 13))) 5 [.c (.int .i64 n), .c (.bool true), .c (.bool false)] []) = some (.bool true) := by kernel_rfl
theorem chain10_14 (n : Int) : closed (evBodyF cfg (ov (orcF cfg 400) (some (.bool true)) (some (.int .i64 14))) 5 [.c (.int .i64 n), .c (.bool true), .c (.bool false)] []) = some (.bool true) := by kernel_rfl
theorem chain10_15 (n : Int) : closed (evBodyF cfg (ov (orcF cfg 400) (some (.bool true)) (some (.int .i64 15))) 5 [.c (.int .i64 n), .c (.bool true), .c (.bool false)] []) = some (.bool true) := by kernel_rfl
theorem chain10_16 (n : Int) : closed (evBodyF cfg (ov (orcF cfg 400) (some (.bool true)) (some (.int .i64 16))) 5 [.c (.int .i64 n), .c (.bool true), .c (.bool false)] []) = some (.bool true) := by kernel_rfl
theorem chain10_17 (n : Int) : closed (evBodyF cfg (ov (orcF cfg 400) (some (.bool true)) (some (.int .i64 17))) 5 [.c (.int .i64 n), .c (.bool true), .c (.bool false)] []) = some (.bool true) := by kernel_rfl
end Go.Proofs.YtkbcnojfibifiaaDoor
