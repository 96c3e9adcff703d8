/- DriveArgs: the function, for every three numbers. -/
import Derived.Test.YtndojngcaohgnaaGreatDoorDACA
import Derived.Test.YtndojngcaohgnaaGreatDoorDACB
import Derived.Test.YtndojngcaohgnaaGreatDoorDACC
import Derived.Test.YtndojngcaohgnaaGreatDoorDACD
import Derived.Test.YtndojngcaohgnaaGreatDoorDACE
set_option linter.unusedVariables false
set_option linter.unusedSectionVars false
set_option linter.unusedSimpArgs false
set_option linter.unnecessarySimpa false
namespace Go.Proofs.YtndojngcaohgnaaGreatDoor
open Go Go.Ev
theorem fn6 : cfg.fn 6 = some Tryz.f6 := by kernel_rfl
theorem b6 : Tryz.f6.body = some body6 := by kernel_rfl

theorem every6 (a b c : Int) (w : Int → Int) (hw : ∀ m, 0 ≤ w m ∧ w m < 1000) : ∀ k : Fin 5, last6 (orcF cfg 399) a b c w (k.val : Int) = some (.bool true) := fun k => match k with
  | ⟨0, _⟩ => case0 a b c w hw
  | ⟨1, _⟩ => case1 a b c w
  | ⟨2, _⟩ => case2 a b c w
  | ⟨3, _⟩ => case3 a b c w
  | ⟨4, _⟩ => case4 a b c w
  | ⟨k + 5, h⟩ => absurd h (by omega)
theorem clo6 (a b c : Int) : CloC Tryz.prog 6 [.int .i64 a, .int .i64 b, .int .i64 c] (.bool true) := by
  obtain ⟨k, hk⟩ := within9 c 5 (by omega) (by omega) (by kernel_rfl) (by kernel_rfl)
  obtain ⟨w, hw⟩ := Classical.skolem.mp fun m : Int => within9 m 1000 (by omega) (by omega) (by kernel_rfl) (by kernel_rfl)
  refine clo1 (n := 400) (clo_of (by kernel_rfl) (by kernel_rfl) ?_)
  rw [body_pre fn6 b6 0]
  show closed (evCodeF cfg (orcF cfg 399) 6 (p6_0 a b c).1 (p6_0 a b c).2 [] (kBody cfg 6 0 Tryz.f6)) = _
  have he := every6 a b c (fun m => ((w m).val : Int)) (fun m => ⟨by omega, by have := (w m).isLt; omega⟩) k
  unfold last6 at he
  rw [evCodeF_eq] at he ⊢
  rw [from6 (orcF cfg 399) a b c (fun m => ((w m).val : Int)) (k.val : Int) _ known8 hw hk]
  exact he
end Go.Proofs.YtndojngcaohgnaaGreatDoor
