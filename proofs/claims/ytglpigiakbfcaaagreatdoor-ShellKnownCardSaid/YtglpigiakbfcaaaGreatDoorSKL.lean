/- ShellKnown: the function, for every number. -/
import Derived.Test.YtglpigiakbfcaaaGreatDoorSKNA
import Derived.Test.YtglpigiakbfcaaaGreatDoorSKNB
set_option linter.unusedVariables false
set_option linter.unusedSectionVars false
set_option linter.unusedSimpArgs false
set_option linter.unnecessarySimpa false
namespace Go.Proofs.YtglpigiakbfcaaaGreatDoor
open Go Go.Ev
theorem fn3 : cfg.fn 3 = some Tryz.f3 := by kernel_rfl
theorem b3 : Tryz.f3.body = some body3 := by kernel_rfl
theorem every3 (n : Int) : ∀ k : Fin 22, last3_ n (k.val : Int) = some (.bool true) := fun k => match k with
  | ⟨0, _⟩ => text0 n
  | ⟨1, _⟩ => text1 n
  | ⟨2, _⟩ => text2 n
  | ⟨3, _⟩ => text3 n
  | ⟨4, _⟩ => text4 n
  | ⟨5, _⟩ => text5 n
  | ⟨6, _⟩ => text6 n
  | ⟨7, _⟩ => text7 n
  | ⟨8, _⟩ => text8 n
  | ⟨9, _⟩ => text9 n
  | ⟨10, _⟩ => text10 n
  | ⟨11, _⟩ => text11 n
  | ⟨12, _⟩ => text12 n
  | ⟨13, _⟩ => text13 n
  | ⟨14, _⟩ => text14 n
  | ⟨15, _⟩ => text15 n
  | ⟨16, _⟩ => text16 n
  | ⟨17, _⟩ => text17 n
  | ⟨18, _⟩ => text18 n
  | ⟨19, _⟩ => text19 n
  | ⟨20, _⟩ => text20 n
  | ⟨21, _⟩ => text21 n
  | ⟨k + 22, h⟩ => absurd h (by omega)
theorem clo3 (n : Int) : CloC Tryz.prog 3 [.int .i64 n] (.bool true) := by
  obtain ⟨k, hk⟩ := within5 n 22 (by omega) (by omega) (by kernel_rfl) (by kernel_rfl)
  refine clo1 (n := 400) (clo_of (by kernel_rfl) (by kernel_rfl) ?_)
  rw [body_pre fn3 b3 0]
  exact run3_ n (k.val : Int) known4 hk (every3 n k)
end Go.Proofs.YtglpigiakbfcaaaGreatDoor
