/- DrivePower: the function, for every two numbers. -/
import Derived.Test.YtndojngcaohgnaaGreatDoorDPNA
import Derived.Test.YtndojngcaohgnaaGreatDoorDPNB
import Derived.Test.YtndojngcaohgnaaGreatDoorDPNC
import Derived.Test.YtndojngcaohgnaaGreatDoorDPND
import Derived.Test.YtndojngcaohgnaaGreatDoorDPNE
import Derived.Test.YtndojngcaohgnaaGreatDoorDPNF
import Derived.Test.YtndojngcaohgnaaGreatDoorDPNG
import Derived.Test.YtndojngcaohgnaaGreatDoorDPNH
import Derived.Test.YtndojngcaohgnaaGreatDoorDPNI
import Derived.Test.YtndojngcaohgnaaGreatDoorDPNJ
import Derived.Test.YtndojngcaohgnaaGreatDoorDPNK
import Derived.Test.YtndojngcaohgnaaGreatDoorDPNL
set_option linter.unusedVariables false
set_option linter.unusedSectionVars false
set_option linter.unusedSimpArgs false
set_option linter.unnecessarySimpa false
namespace Go.Proofs.YtndojngcaohgnaaGreatDoor
open Go Go.Ev
theorem fn3 : cfg.fn 3 = some Tryz.f3 := by kernel_rfl
theorem b3 : Tryz.f3.body = some body3 := by kernel_rfl
theorem every3 (n x : Int) : ∀ (k : Fin 12) (j : Fin 7), last3_ n x (k.val : Int) (j.val : Int) = some (.bool true) := fun k => match k with
  | ⟨0, _⟩ => every3_0 n x
  | ⟨1, _⟩ => every3_1 n x
  | ⟨2, _⟩ => every3_2 n x
  | ⟨3, _⟩ => every3_3 n x
  | ⟨4, _⟩ => every3_4 n x
  | ⟨5, _⟩ => every3_5 n x
  | ⟨6, _⟩ => every3_6 n x
  | ⟨7, _⟩ => every3_7 n x
  | ⟨8, _⟩ => every3_8 n x
  | ⟨9, _⟩ => every3_9 n x
  | ⟨10, _⟩ => every3_10 n x
  | ⟨11, _⟩ => every3_11 n x
  | ⟨k + 12, h⟩ => absurd h (by omega)
theorem clo3 (n x : Int) : CloC Tryz.prog 3 [.int .i64 n, .int .i64 x] (.bool true) := by
  obtain ⟨k, hk⟩ := within9 n 12 (by omega) (by omega) (by kernel_rfl) (by kernel_rfl)
  obtain ⟨j, hj⟩ := within9 x 7 (by omega) (by omega) (by kernel_rfl) (by kernel_rfl)
  refine clo1 (n := 400) (clo_of (by kernel_rfl) (by kernel_rfl) ?_)
  rw [body_pre fn3 b3 0]
  exact run3_ n x (k.val : Int) (j.val : Int) known8 hk hj (every3 n x k j)
end Go.Proofs.YtndojngcaohgnaaGreatDoor
