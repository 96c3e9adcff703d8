/- DriveFar: the function, for every two numbers. -/
import Derived.Test.YtndojngcaohgnaaGreatDoorDFC0
import Derived.Test.YtndojngcaohgnaaGreatDoorDFC1
import Derived.Test.YtndojngcaohgnaaGreatDoorDFC2
import Derived.Test.YtndojngcaohgnaaGreatDoorDFC3
import Derived.Test.YtndojngcaohgnaaGreatDoorDFC4
set_option linter.unusedVariables false
set_option linter.unusedSectionVars false
set_option linter.unusedSimpArgs false
set_option linter.unnecessarySimpa false
namespace Go.Proofs.YtndojngcaohgnaaGreatDoor
open Go Go.Ev
theorem fn4 : cfg.fn 4 = some Tryz.f4 := by kernel_rfl
theorem b4 : Tryz.f4.body = some body4 := by kernel_rfl
theorem case0 (w n : Int) (h : (orcF cfg 399).clo 9 [.int .i64 w, .int .i64 5] = some (.int .i64 0)) : closed (evCodeF cfg (orcF cfg 399) 4 (p4_k0_0 w n).1 (p4_k0_0 w n).2 [] (kBody cfg 4 0 Tryz.f4)) = some (.bool true) := run4_k0_ w n known8 h (drive0 n) (far0 w n)
theorem case1 (w n : Int) (h : (orcF cfg 399).clo 9 [.int .i64 w, .int .i64 5] = some (.int .i64 1)) : closed (evCodeF cfg (orcF cfg 399) 4 (p4_k0_0 w n).1 (p4_k0_0 w n).2 [] (kBody cfg 4 0 Tryz.f4)) = some (.bool true) := run4_k1_ w n known8 h (drive1 n) (far1 w n)
theorem case2 (w n : Int) (h : (orcF cfg 399).clo 9 [.int .i64 w, .int .i64 5] = some (.int .i64 2)) : closed (evCodeF cfg (orcF cfg 399) 4 (p4_k0_0 w n).1 (p4_k0_0 w n).2 [] (kBody cfg 4 0 Tryz.f4)) = some (.bool true) := run4_k2_ w n known8 h (drive2 n) (far2 w n)
theorem case3 (w n : Int) (h : (orcF cfg 399).clo 9 [.int .i64 w, .int .i64 5] = some (.int .i64 3)) : closed (evCodeF cfg (orcF cfg 399) 4 (p4_k0_0 w n).1 (p4_k0_0 w n).2 [] (kBody cfg 4 0 Tryz.f4)) = some (.bool true) := run4_k3_ w n known8 h (drive3 n) (far3 w n)
theorem case4 (w n : Int) (h : (orcF cfg 399).clo 9 [.int .i64 w, .int .i64 5] = some (.int .i64 4)) : closed (evCodeF cfg (orcF cfg 399) 4 (p4_k0_0 w n).1 (p4_k0_0 w n).2 [] (kBody cfg 4 0 Tryz.f4)) = some (.bool true) := run4_k4_ w n known8 h (drive4 n) (far4 w n)
theorem every4 (w n : Int) : ∀ k : Fin 5, (orcF cfg 399).clo 9 [.int .i64 w, .int .i64 5] = some (.int .i64 (k.val : Int)) → closed (evCodeF cfg (orcF cfg 399) 4 (p4_k0_0 w n).1 (p4_k0_0 w n).2 [] (kBody cfg 4 0 Tryz.f4)) = some (.bool true) := fun k => match k with
  | ⟨0, _⟩ => case0 w n
  | ⟨1, _⟩ => case1 w n
  | ⟨2, _⟩ => case2 w n
  | ⟨3, _⟩ => case3 w n
  | ⟨4, _⟩ => case4 w n
  | ⟨k + 5, h⟩ => absurd h (by omega)
theorem clo4 (w n : Int) : CloC Tryz.prog 4 [.int .i64 w, .int .i64 n] (.bool true) := by
  obtain ⟨k, hk⟩ := within9 w 5 (by omega) (by omega) (by kernel_rfl) (by kernel_rfl)
  refine clo1 (n := 400) (clo_of (by kernel_rfl) (by kernel_rfl) ?_)
  rw [body_pre fn4 b4 0]
  exact every4 w n k hk
end Go.Proofs.YtndojngcaohgnaaGreatDoor
