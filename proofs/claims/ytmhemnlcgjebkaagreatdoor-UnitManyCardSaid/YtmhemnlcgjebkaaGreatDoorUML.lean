/- UnitMany: the function, for every two numbers. -/
import Derived.Test.YtmhemnlcgjebkaaGreatDoorUMC0
import Derived.Test.YtmhemnlcgjebkaaGreatDoorUMC1
import Derived.Test.YtmhemnlcgjebkaaGreatDoorUMC2
import Derived.Test.YtmhemnlcgjebkaaGreatDoorUMC3
import Derived.Test.YtmhemnlcgjebkaaGreatDoorUMC4
import Derived.Test.YtmhemnlcgjebkaaGreatDoorUMC5
import Derived.Test.YtmhemnlcgjebkaaGreatDoorUMD0a
import Derived.Test.YtmhemnlcgjebkaaGreatDoorUMD0b
import Derived.Test.YtmhemnlcgjebkaaGreatDoorUMD0c
import Derived.Test.YtmhemnlcgjebkaaGreatDoorUMD1a
import Derived.Test.YtmhemnlcgjebkaaGreatDoorUMD1b
import Derived.Test.YtmhemnlcgjebkaaGreatDoorUMD1c
import Derived.Test.YtmhemnlcgjebkaaGreatDoorUMD2a
import Derived.Test.YtmhemnlcgjebkaaGreatDoorUMD2b
import Derived.Test.YtmhemnlcgjebkaaGreatDoorUMD2c
set_option linter.unusedVariables false
set_option linter.unusedSectionVars false
set_option linter.unusedSimpArgs false
set_option linter.unnecessarySimpa false
namespace Go.Proofs.YtmhemnlcgjebkaaGreatDoor
open Go Go.Ev
theorem fn3 : cfg.fn 3 = some Tryz.f3 := by kernel_rfl
theorem b3 : Tryz.f3.body = some body3 := by kernel_rfl
theorem every0 (n a : Int) : ∀ j : Fin 28, (orcF cfg 399).clo 5 [.int .i64 a, .int .i64 28] = some (.int .i64 (j.val : Int)) → last3_k0_ n a = some (.bool true) := fun j => match j with
  | ⟨0, _⟩ => case0_0 n a
  | ⟨1, _⟩ => case0_1 n a
  | ⟨2, _⟩ => case0_2 n a
  | ⟨3, _⟩ => case0_3 n a
  | ⟨4, _⟩ => case0_4 n a
  | ⟨5, _⟩ => case0_5 n a
  | ⟨6, _⟩ => case0_6 n a
  | ⟨7, _⟩ => case0_7 n a
  | ⟨8, _⟩ => case0_8 n a
  | ⟨9, _⟩ => case0_9 n a
  | ⟨10, _⟩ => case0_10 n a
  | ⟨11, _⟩ => case0_11 n a
  | ⟨12, _⟩ => case0_12 n a
  | ⟨13, _⟩ => case0_13 n a
  | ⟨14, _⟩ => case0_14 n a
  | ⟨15, _⟩ => case0_15 n a
  | ⟨16, _⟩ => case0_16 n a
  | ⟨17, _⟩ => case0_17 n a
  | ⟨18, _⟩ => case0_18 n a
  | ⟨19, _⟩ => case0_19 n a
  | ⟨20, _⟩ => case0_20 n a
  | ⟨21, _⟩ => case0_21 n a
  | ⟨22, _⟩ => case0_22 n a
  | ⟨23, _⟩ => case0_23 n a
  | ⟨24, _⟩ => case0_24 n a
  | ⟨25, _⟩ => case0_25 n a
  | ⟨26, _⟩ => case0_26 n a
  | ⟨27, _⟩ => case0_27 n a
  | ⟨j + 28, h⟩ => absurd h (by omega)
theorem every1 (n a : Int) : ∀ j : Fin 29, (orcF cfg 399).clo 5 [.int .i64 a, .int .i64 29] = some (.int .i64 (j.val : Int)) → last3_k1_ n a = some (.bool true) := fun j => match j with
  | ⟨0, _⟩ => case1_0 n a
  | ⟨1, _⟩ => case1_1 n a
  | ⟨2, _⟩ => case1_2 n a
  | ⟨3, _⟩ => case1_3 n a
  | ⟨4, _⟩ => case1_4 n a
  | ⟨5, _⟩ => case1_5 n a
  | ⟨6, _⟩ => case1_6 n a
  | ⟨7, _⟩ => case1_7 n a
  | ⟨8, _⟩ => case1_8 n a
  | ⟨9, _⟩ => case1_9 n a
  | ⟨10, _⟩ => case1_10 n a
  | ⟨11, _⟩ => case1_11 n a
  | ⟨12, _⟩ => case1_12 n a
  | ⟨13, _⟩ => case1_13 n a
  | ⟨14, _⟩ => case1_14 n a
  | ⟨15, _⟩ => case1_15 n a
  | ⟨16, _⟩ => case1_16 n a
  | ⟨17, _⟩ => case1_17 n a
  | ⟨18, _⟩ => case1_18 n a
  | ⟨19, _⟩ => case1_19 n a
  | ⟨20, _⟩ => case1_20 n a
  | ⟨21, _⟩ => case1_21 n a
  | ⟨22, _⟩ => case1_22 n a
  | ⟨23, _⟩ => case1_23 n a
  | ⟨24, _⟩ => case1_24 n a
  | ⟨25, _⟩ => case1_25 n a
  | ⟨26, _⟩ => case1_26 n a
  | ⟨27, _⟩ => case1_27 n a
  | ⟨28, _⟩ => case1_28 n a
  | ⟨j + 29, h⟩ => absurd h (by omega)
theorem every2 (n a : Int) : ∀ j : Fin 30, (orcF cfg 399).clo 5 [.int .i64 a, .int .i64 30] = some (.int .i64 (j.val : Int)) → last3_k2_ n a = some (.bool true) := fun j => match j with
  | ⟨0, _⟩ => case2_0 n a
  | ⟨1, _⟩ => case2_1 n a
  | ⟨2, _⟩ => case2_2 n a
  | ⟨3, _⟩ => case2_3 n a
  | ⟨4, _⟩ => case2_4 n a
  | ⟨5, _⟩ => case2_5 n a
  | ⟨6, _⟩ => case2_6 n a
  | ⟨7, _⟩ => case2_7 n a
  | ⟨8, _⟩ => case2_8 n a
  | ⟨9, _⟩ => case2_9 n a
  | ⟨10, _⟩ => case2_10 n a
  | ⟨11, _⟩ => case2_11 n a
  | ⟨12, _⟩ => case2_12 n a
  | ⟨13, _⟩ => case2_13 n a
  | ⟨14, _⟩ => case2_14 n a
  | ⟨15, _⟩ => case2_15 n a
  | ⟨16, _⟩ => case2_16 n a
  | ⟨17, _⟩ => case2_17 n a
  | ⟨18, _⟩ => case2_18 n a
  | ⟨19, _⟩ => case2_19 n a
  | ⟨20, _⟩ => case2_20 n a
  | ⟨21, _⟩ => case2_21 n a
  | ⟨22, _⟩ => case2_22 n a
  | ⟨23, _⟩ => case2_23 n a
  | ⟨24, _⟩ => case2_24 n a
  | ⟨25, _⟩ => case2_25 n a
  | ⟨26, _⟩ => case2_26 n a
  | ⟨27, _⟩ => case2_27 n a
  | ⟨28, _⟩ => case2_28 n a
  | ⟨29, _⟩ => case2_29 n a
  | ⟨j + 30, h⟩ => absurd h (by omega)
theorem case0 (n a : Int) (h : (orcF cfg 399).clo 5 [.int .i64 n, .int .i64 6] = some (.int .i64 0)) : closed (evCodeF cfg (orcF cfg 399) 3 (p3_k0_0 n a).1 (p3_k0_0 n a).2 [] (kBody cfg 3 0 Tryz.f3)) = some (.bool true) := by
  obtain ⟨j, hj⟩ := within5 a 28 (by omega) (by omega) (by kernel_rfl) (by kernel_rfl)
  exact run3_k0_ n a known4 h (every0 n a j hj)
theorem case1 (n a : Int) (h : (orcF cfg 399).clo 5 [.int .i64 n, .int .i64 6] = some (.int .i64 1)) : closed (evCodeF cfg (orcF cfg 399) 3 (p3_k0_0 n a).1 (p3_k0_0 n a).2 [] (kBody cfg 3 0 Tryz.f3)) = some (.bool true) := by
  obtain ⟨j, hj⟩ := within5 a 29 (by omega) (by omega) (by kernel_rfl) (by kernel_rfl)
  exact run3_k1_ n a known4 h (every1 n a j hj)
theorem case2 (n a : Int) (h : (orcF cfg 399).clo 5 [.int .i64 n, .int .i64 6] = some (.int .i64 2)) : closed (evCodeF cfg (orcF cfg 399) 3 (p3_k0_0 n a).1 (p3_k0_0 n a).2 [] (kBody cfg 3 0 Tryz.f3)) = some (.bool true) := by
  obtain ⟨j, hj⟩ := within5 a 30 (by omega) (by omega) (by kernel_rfl) (by kernel_rfl)
  exact run3_k2_ n a known4 h (every2 n a j hj)
theorem case3 (n a : Int) (h : (orcF cfg 399).clo 5 [.int .i64 n, .int .i64 6] = some (.int .i64 3)) : closed (evCodeF cfg (orcF cfg 399) 3 (p3_k0_0 n a).1 (p3_k0_0 n a).2 [] (kBody cfg 3 0 Tryz.f3)) = some (.bool true) := run3_k3_ n a known4 h (many3 n a)
theorem case4 (n a : Int) (h : (orcF cfg 399).clo 5 [.int .i64 n, .int .i64 6] = some (.int .i64 4)) : closed (evCodeF cfg (orcF cfg 399) 3 (p3_k0_0 n a).1 (p3_k0_0 n a).2 [] (kBody cfg 3 0 Tryz.f3)) = some (.bool true) := run3_k4_ n a known4 h (many4 n a)
theorem case5 (n a : Int) (h : (orcF cfg 399).clo 5 [.int .i64 n, .int .i64 6] = some (.int .i64 5)) : closed (evCodeF cfg (orcF cfg 399) 3 (p3_k0_0 n a).1 (p3_k0_0 n a).2 [] (kBody cfg 3 0 Tryz.f3)) = some (.bool true) := run3_k5_ n a known4 h (many5 n a)
theorem all3_ (n a : Int) : ∀ k : Fin 6, (orcF cfg 399).clo 5 [.int .i64 n, .int .i64 6] = some (.int .i64 (k.val : Int)) → closed (evCodeF cfg (orcF cfg 399) 3 (p3_k0_0 n a).1 (p3_k0_0 n a).2 [] (kBody cfg 3 0 Tryz.f3)) = some (.bool true) := fun k => match k with
  | ⟨0, _⟩ => case0 n a
  | ⟨1, _⟩ => case1 n a
  | ⟨2, _⟩ => case2 n a
  | ⟨3, _⟩ => case3 n a
  | ⟨4, _⟩ => case4 n a
  | ⟨5, _⟩ => case5 n a
  | ⟨k + 6, h⟩ => absurd h (by omega)
theorem clo3 (n a : Int) : CloC Tryz.prog 3 [.int .i64 n, .int .i64 a] (.bool true) := by
  obtain ⟨k, hk⟩ := within5 n 6 (by omega) (by omega) (by kernel_rfl) (by kernel_rfl)
  refine clo1 (n := 400) (clo_of (by kernel_rfl) (by kernel_rfl) ?_)
  rw [body_pre fn3 b3 0]
  exact all3_ n a k hk
end Go.Proofs.YtmhemnlcgjebkaaGreatDoor
