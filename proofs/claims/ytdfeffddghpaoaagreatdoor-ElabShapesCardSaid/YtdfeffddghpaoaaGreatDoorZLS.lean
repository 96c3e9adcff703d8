/- ElabShapes: the function, for every two numbers. -/
import Derived.Test.YtdfeffddghpaoaaGreatDoorZTSA
import Derived.Test.YtdfeffddghpaoaaGreatDoorZTSB
import Derived.Test.YtdfeffddghpaoaaGreatDoorZTSC
import Derived.Test.YtdfeffddghpaoaaGreatDoorZTSD
import Derived.Test.YtdfeffddghpaoaaGreatDoorZTSE
import Derived.Test.YtdfeffddghpaoaaGreatDoorZTSF
import Derived.Test.YtdfeffddghpaoaaGreatDoorZTSG
import Derived.Test.YtdfeffddghpaoaaGreatDoorZTSH
import Derived.Test.YtdfeffddghpaoaaGreatDoorZTSI
import Derived.Test.YtdfeffddghpaoaaGreatDoorZTSJ
import Derived.Test.YtdfeffddghpaoaaGreatDoorZTSK
import Derived.Test.YtdfeffddghpaoaaGreatDoorZTSL
import Derived.Test.YtdfeffddghpaoaaGreatDoorZTSM
import Derived.Test.YtdfeffddghpaoaaGreatDoorZTSN
import Derived.Test.YtdfeffddghpaoaaGreatDoorZTSO
import Derived.Test.YtdfeffddghpaoaaGreatDoorZSQA
import Derived.Test.YtdfeffddghpaoaaGreatDoorZSQB
import Derived.Test.YtdfeffddghpaoaaGreatDoorZSQC
set_option linter.unusedVariables false
set_option linter.unusedSectionVars false
set_option linter.unusedSimpArgs false
set_option linter.unnecessarySimpa false
namespace Go.Proofs.YtdfeffddghpaoaaGreatDoor
open Go Go.Ev
def good6 (n m k : Int) : Prop := closed (evCodeF cfg (orcF cfg 399) 6 (p6_5 n m k).1 (p6_5 n m k).2 [] (kBody cfg 6 0 Tryz.f6)) = some (.bool true)
theorem mids6 (n m : Int) {k : Int} {l : List CV} (hm : ∀ (N : Code → S → O → Option (AV × O)) (K : Ex → S → O → Option (AV × O)), evPre cfg (orcF cfg 399) 6 3 (p6_5 n m k).1 (p6_5 n m k).2 [] N K = N code6 (p6_8 n m k).2 [])
    (he : ((p6_8 n m k).2.env 1, (p6_8 n m k).2.env 10, (p6_8 n m k).2.env 11, (p6_8 n m k).2.own 50) = (some (.c (.int .i64 m)), some (.c (.int .i64 7)), some (.sl 50), some (.lst 1 l))) (h : last6 (orcF cfg 399) (p6_8 n m k).2 m l = some (.bool true)) :
    good6 n m k := by
  unfold last6 at h
  rw [slim_is he] at h
  unfold good6
  rw [evCodeF_eq, ← evPre_eq cfg (orcF cfg 399) 6 _ 3 (p6_5 n m k).1, hm, ← evCodeF_eq]
  exact h
theorem good6_0 (n m : Int) (j : Fin 6) (hj : (orcF cfg 399).clo 8 [.int .i64 m, .int .i64 6] = some (.int .i64 (j.val : Int))) : good6 n m 0 := mids6 n m (mid6_0 n m) (env6_0 n m) (all6 toldS0_0 toldS0_1 toldS0_2 toldS0_3 toldS0_4 toldS0_5 j hj)
theorem good6_1 (n m : Int) (j : Fin 6) (hj : (orcF cfg 399).clo 8 [.int .i64 m, .int .i64 6] = some (.int .i64 (j.val : Int))) : good6 n m 1 := mids6 n m (mid6_1 n m) (env6_1 n m) (all6 toldS1_0 toldS1_1 toldS1_2 toldS1_3 toldS1_4 toldS1_5 j hj)
theorem good6_2 (n m : Int) (j : Fin 6) (hj : (orcF cfg 399).clo 8 [.int .i64 m, .int .i64 6] = some (.int .i64 (j.val : Int))) : good6 n m 2 := mids6 n m (mid6_2 n m) (env6_2 n m) (all6 toldS2_0 toldS2_1 toldS2_2 toldS2_3 toldS2_4 toldS2_5 j hj)
theorem good6_3 (n m : Int) (j : Fin 6) (hj : (orcF cfg 399).clo 8 [.int .i64 m, .int .i64 6] = some (.int .i64 (j.val : Int))) : good6 n m 3 := mids6 n m (mid6_3 n m) (env6_3 n m) (all6 toldS3_0 toldS3_1 toldS3_2 toldS3_3 toldS3_4 toldS3_5 j hj)
theorem good6_4 (n m : Int) (j : Fin 6) (hj : (orcF cfg 399).clo 8 [.int .i64 m, .int .i64 6] = some (.int .i64 (j.val : Int))) : good6 n m 4 := mids6 n m (mid6_4 n m) (env6_4 n m) (all6 toldS4_0 toldS4_1 toldS4_2 toldS4_3 toldS4_4 toldS4_5 j hj)
theorem good6_5 (n m : Int) (j : Fin 6) (hj : (orcF cfg 399).clo 8 [.int .i64 m, .int .i64 6] = some (.int .i64 (j.val : Int))) : good6 n m 5 := mids6 n m (mid6_5 n m) (env6_5 n m) (all6 toldS5_0 toldS5_1 toldS5_2 toldS5_3 toldS5_4 toldS5_5 j hj)
theorem good6_6 (n m : Int) (j : Fin 6) (hj : (orcF cfg 399).clo 8 [.int .i64 m, .int .i64 6] = some (.int .i64 (j.val : Int))) : good6 n m 6 := mids6 n m (mid6_6 n m) (env6_6 n m) (all6 toldS6_0 toldS6_1 toldS6_2 toldS6_3 toldS6_4 toldS6_5 j hj)
theorem good6_7 (n m : Int) (j : Fin 6) (hj : (orcF cfg 399).clo 8 [.int .i64 m, .int .i64 6] = some (.int .i64 (j.val : Int))) : good6 n m 7 := mids6 n m (mid6_7 n m) (env6_7 n m) (all6 toldS7_0 toldS7_1 toldS7_2 toldS7_3 toldS7_4 toldS7_5 j hj)
theorem good6_8 (n m : Int) (j : Fin 6) (hj : (orcF cfg 399).clo 8 [.int .i64 m, .int .i64 6] = some (.int .i64 (j.val : Int))) : good6 n m 8 := mids6 n m (mid6_8 n m) (env6_8 n m) (all6 toldS8_0 toldS8_1 toldS8_2 toldS8_3 toldS8_4 toldS8_5 j hj)
theorem good6_9 (n m : Int) (j : Fin 6) (hj : (orcF cfg 399).clo 8 [.int .i64 m, .int .i64 6] = some (.int .i64 (j.val : Int))) : good6 n m 9 := mids6 n m (mid6_9 n m) (env6_9 n m) (all6 toldS9_0 toldS9_1 toldS9_2 toldS9_3 toldS9_4 toldS9_5 j hj)
theorem good6_10 (n m : Int) (j : Fin 6) (hj : (orcF cfg 399).clo 8 [.int .i64 m, .int .i64 6] = some (.int .i64 (j.val : Int))) : good6 n m 10 := mids6 n m (mid6_10 n m) (env6_10 n m) (all6 toldS10_0 toldS10_1 toldS10_2 toldS10_3 toldS10_4 toldS10_5 j hj)
theorem good6_11 (n m : Int) (j : Fin 6) (hj : (orcF cfg 399).clo 8 [.int .i64 m, .int .i64 6] = some (.int .i64 (j.val : Int))) : good6 n m 11 := mids6 n m (mid6_11 n m) (env6_11 n m) (all6 toldS11_0 toldS11_1 toldS11_2 toldS11_3 toldS11_4 toldS11_5 j hj)
theorem good6_12 (n m : Int) (j : Fin 6) (hj : (orcF cfg 399).clo 8 [.int .i64 m, .int .i64 6] = some (.int .i64 (j.val : Int))) : good6 n m 12 := mids6 n m (mid6_12 n m) (env6_12 n m) (all6 toldS12_0 toldS12_1 toldS12_2 toldS12_3 toldS12_4 toldS12_5 j hj)
theorem good6_13 (n m : Int) (j : Fin 6) (hj : (orcF cfg 399).clo 8 [.int .i64 m, .int .i64 6] = some (.int .i64 (j.val : Int))) : good6 n m 13 := mids6 n m (mid6_13 n m) (env6_13 n m) (all6 toldS13_0 toldS13_1 toldS13_2 toldS13_3 toldS13_4 toldS13_5 j hj)
theorem good6_14 (n m : Int) (j : Fin 6) (hj : (orcF cfg 399).clo 8 [.int .i64 m, .int .i64 6] = some (.int .i64 (j.val : Int))) : good6 n m 14 := mids6 n m (mid6_14 n m) (env6_14 n m) (all6 toldS14_0 toldS14_1 toldS14_2 toldS14_3 toldS14_4 toldS14_5 j hj)
theorem good6_15 (n m : Int) (j : Fin 6) (hj : (orcF cfg 399).clo 8 [.int .i64 m, .int .i64 6] = some (.int .i64 (j.val : Int))) : good6 n m 15 := mids6 n m (mid6_15 n m) (env6_15 n m) (all6 toldS15_0 toldS15_1 toldS15_2 toldS15_3 toldS15_4 toldS15_5 j hj)
theorem good6_16 (n m : Int) (j : Fin 6) (hj : (orcF cfg 399).clo 8 [.int .i64 m, .int .i64 6] = some (.int .i64 (j.val : Int))) : good6 n m 16 := mids6 n m (mid6_16 n m) (env6_16 n m) (all6 toldS16_0 toldS16_1 toldS16_2 toldS16_3 toldS16_4 toldS16_5 j hj)
theorem good6_17 (n m : Int) (j : Fin 6) (hj : (orcF cfg 399).clo 8 [.int .i64 m, .int .i64 6] = some (.int .i64 (j.val : Int))) : good6 n m 17 := mids6 n m (mid6_17 n m) (env6_17 n m) (all6 toldS17_0 toldS17_1 toldS17_2 toldS17_3 toldS17_4 toldS17_5 j hj)
theorem good6_18 (n m : Int) (j : Fin 6) (hj : (orcF cfg 399).clo 8 [.int .i64 m, .int .i64 6] = some (.int .i64 (j.val : Int))) : good6 n m 18 := mids6 n m (mid6_18 n m) (env6_18 n m) (all6 toldS18_0 toldS18_1 toldS18_2 toldS18_3 toldS18_4 toldS18_5 j hj)
theorem good6_19 (n m : Int) (j : Fin 6) (hj : (orcF cfg 399).clo 8 [.int .i64 m, .int .i64 6] = some (.int .i64 (j.val : Int))) : good6 n m 19 := mids6 n m (mid6_19 n m) (env6_19 n m) (all6 toldS19_0 toldS19_1 toldS19_2 toldS19_3 toldS19_4 toldS19_5 j hj)
theorem good6_20 (n m : Int) (j : Fin 6) (hj : (orcF cfg 399).clo 8 [.int .i64 m, .int .i64 6] = some (.int .i64 (j.val : Int))) : good6 n m 20 := mids6 n m (mid6_20 n m) (env6_20 n m) (all6 toldS20_0 toldS20_1 toldS20_2 toldS20_3 toldS20_4 toldS20_5 j hj)
theorem good6_21 (n m : Int) (j : Fin 6) (hj : (orcF cfg 399).clo 8 [.int .i64 m, .int .i64 6] = some (.int .i64 (j.val : Int))) : good6 n m 21 := mids6 n m (mid6_21 n m) (env6_21 n m) (all6 toldS21_0 toldS21_1 toldS21_2 toldS21_3 toldS21_4 toldS21_5 j hj)
theorem good6_22 (n m : Int) (j : Fin 6) (hj : (orcF cfg 399).clo 8 [.int .i64 m, .int .i64 6] = some (.int .i64 (j.val : Int))) : good6 n m 22 := mids6 n m (mid6_22 n m) (env6_22 n m) (all6 toldS22_0 toldS22_1 toldS22_2 toldS22_3 toldS22_4 toldS22_5 j hj)
theorem good6_23 (n m : Int) (j : Fin 6) (hj : (orcF cfg 399).clo 8 [.int .i64 m, .int .i64 6] = some (.int .i64 (j.val : Int))) : good6 n m 23 := mids6 n m (mid6_23 n m) (env6_23 n m) (all6 toldS23_0 toldS23_1 toldS23_2 toldS23_3 toldS23_4 toldS23_5 j hj)
theorem good6_24 (n m : Int) (j : Fin 6) (hj : (orcF cfg 399).clo 8 [.int .i64 m, .int .i64 6] = some (.int .i64 (j.val : Int))) : good6 n m 24 := mids6 n m (mid6_24 n m) (env6_24 n m) (all6 toldS24_0 toldS24_1 toldS24_2 toldS24_3 toldS24_4 toldS24_5 j hj)
theorem good6_25 (n m : Int) (j : Fin 6) (hj : (orcF cfg 399).clo 8 [.int .i64 m, .int .i64 6] = some (.int .i64 (j.val : Int))) : good6 n m 25 := mids6 n m (mid6_25 n m) (env6_25 n m) (all6 toldS25_0 toldS25_1 toldS25_2 toldS25_3 toldS25_4 toldS25_5 j hj)
theorem good6_26 (n m : Int) (j : Fin 6) (hj : (orcF cfg 399).clo 8 [.int .i64 m, .int .i64 6] = some (.int .i64 (j.val : Int))) : good6 n m 26 := mids6 n m (mid6_26 n m) (env6_26 n m) (all6 toldS26_0 toldS26_1 toldS26_2 toldS26_3 toldS26_4 toldS26_5 j hj)
theorem good6_27 (n m : Int) (j : Fin 6) (hj : (orcF cfg 399).clo 8 [.int .i64 m, .int .i64 6] = some (.int .i64 (j.val : Int))) : good6 n m 27 := mids6 n m (mid6_27 n m) (env6_27 n m) (all6 toldS27_0 toldS27_1 toldS27_2 toldS27_3 toldS27_4 toldS27_5 j hj)
theorem good6_28 (n m : Int) (j : Fin 6) (hj : (orcF cfg 399).clo 8 [.int .i64 m, .int .i64 6] = some (.int .i64 (j.val : Int))) : good6 n m 28 := mids6 n m (mid6_28 n m) (env6_28 n m) (all6 toldS28_0 toldS28_1 toldS28_2 toldS28_3 toldS28_4 toldS28_5 j hj)
theorem good6_29 (n m : Int) (j : Fin 6) (hj : (orcF cfg 399).clo 8 [.int .i64 m, .int .i64 6] = some (.int .i64 (j.val : Int))) : good6 n m 29 := mids6 n m (mid6_29 n m) (env6_29 n m) (all6 toldS29_0 toldS29_1 toldS29_2 toldS29_3 toldS29_4 toldS29_5 j hj)
theorem all6k (n m : Int) (j : Fin 6) (hj : (orcF cfg 399).clo 8 [.int .i64 m, .int .i64 6] = some (.int .i64 (j.val : Int))) : ∀ k : Fin 30, good6 n m (k.val : Int) := fun k => match k with
  | ⟨0, _⟩ => good6_0 n m j hj
  | ⟨1, _⟩ => good6_1 n m j hj
  | ⟨2, _⟩ => good6_2 n m j hj
  | ⟨3, _⟩ => good6_3 n m j hj
  | ⟨4, _⟩ => good6_4 n m j hj
  | ⟨5, _⟩ => good6_5 n m j hj
  | ⟨6, _⟩ => good6_6 n m j hj
  | ⟨7, _⟩ => good6_7 n m j hj
  | ⟨8, _⟩ => good6_8 n m j hj
  | ⟨9, _⟩ => good6_9 n m j hj
  | ⟨10, _⟩ => good6_10 n m j hj
  | ⟨11, _⟩ => good6_11 n m j hj
  | ⟨12, _⟩ => good6_12 n m j hj
  | ⟨13, _⟩ => good6_13 n m j hj
  | ⟨14, _⟩ => good6_14 n m j hj
  | ⟨15, _⟩ => good6_15 n m j hj
  | ⟨16, _⟩ => good6_16 n m j hj
  | ⟨17, _⟩ => good6_17 n m j hj
  | ⟨18, _⟩ => good6_18 n m j hj
  | ⟨19, _⟩ => good6_19 n m j hj
  | ⟨20, _⟩ => good6_20 n m j hj
  | ⟨21, _⟩ => good6_21 n m j hj
  | ⟨22, _⟩ => good6_22 n m j hj
  | ⟨23, _⟩ => good6_23 n m j hj
  | ⟨24, _⟩ => good6_24 n m j hj
  | ⟨25, _⟩ => good6_25 n m j hj
  | ⟨26, _⟩ => good6_26 n m j hj
  | ⟨27, _⟩ => good6_27 n m j hj
  | ⟨28, _⟩ => good6_28 n m j hj
  | ⟨29, _⟩ => good6_29 n m j hj
  | ⟨k + 30, h⟩ => absurd h (by omega)
theorem to6_5k (Q : Orc) (n m : Int) : ∀ (k : Fin 30) (N : Code → S → O → Option (AV × O)) (K : Ex → S → O → Option (AV × O)), evPre cfg (ov Q none (some (.int .i64 (k.val : Int))) none) 6 1 (p6_4 n m).1 (p6_4 n m).2 [] N K = N (p6_5 n m (k.val : Int)).1 (p6_5 n m (k.val : Int)).2 [] := fun k => match k with
  | ⟨0, _⟩ => to6_5_0 Q n m
  | ⟨1, _⟩ => to6_5_1 Q n m
  | ⟨2, _⟩ => to6_5_2 Q n m
  | ⟨3, _⟩ => to6_5_3 Q n m
  | ⟨4, _⟩ => to6_5_4 Q n m
  | ⟨5, _⟩ => to6_5_5 Q n m
  | ⟨6, _⟩ => to6_5_6 Q n m
  | ⟨7, _⟩ => to6_5_7 Q n m
  | ⟨8, _⟩ => to6_5_8 Q n m
  | ⟨9, _⟩ => to6_5_9 Q n m
  | ⟨10, _⟩ => to6_5_10 Q n m
  | ⟨11, _⟩ => to6_5_11 Q n m
  | ⟨12, _⟩ => to6_5_12 Q n m
  | ⟨13, _⟩ => to6_5_13 Q n m
  | ⟨14, _⟩ => to6_5_14 Q n m
  | ⟨15, _⟩ => to6_5_15 Q n m
  | ⟨16, _⟩ => to6_5_16 Q n m
  | ⟨17, _⟩ => to6_5_17 Q n m
  | ⟨18, _⟩ => to6_5_18 Q n m
  | ⟨19, _⟩ => to6_5_19 Q n m
  | ⟨20, _⟩ => to6_5_20 Q n m
  | ⟨21, _⟩ => to6_5_21 Q n m
  | ⟨22, _⟩ => to6_5_22 Q n m
  | ⟨23, _⟩ => to6_5_23 Q n m
  | ⟨24, _⟩ => to6_5_24 Q n m
  | ⟨25, _⟩ => to6_5_25 Q n m
  | ⟨26, _⟩ => to6_5_26 Q n m
  | ⟨27, _⟩ => to6_5_27 Q n m
  | ⟨28, _⟩ => to6_5_28 Q n m
  | ⟨29, _⟩ => to6_5_29 Q n m
  | ⟨k + 30, h⟩ => absurd h (by omega)
theorem fn6 : cfg.fn 6 = some Tryz.f6 := by kernel_rfl
theorem b6 : Tryz.f6.body = some body6 := by kernel_rfl
theorem known6 : (orcF cfg 399).clo 7 [] = some (.bool true) := by kernel_rfl
theorem clo6 (n m : Int) : CloC Tryz.prog 6 [.int .i64 n, .int .i64 m] (.bool true) := by
  obtain ⟨k, hk⟩ := within_is (orcF cfg 398) n 30 (by omega) (by omega)
  have hk : (orcF cfg 399).clo 8 _ = _ := clo_of (xs := [.int .i64 n, .int .i64 30]) (by kernel_rfl) (by kernel_rfl) hk
  obtain ⟨j, hj⟩ := within_is (orcF cfg 398) m 6 (by omega) (by omega)
  have hj : (orcF cfg 399).clo 8 _ = _ := clo_of (xs := [.int .i64 m, .int .i64 6]) (by kernel_rfl) (by kernel_rfl) hj
  refine clo1 (n := 400) (clo_of (by kernel_rfl) (by kernel_rfl) ?_)
  rw [body_pre fn6 b6 0]
  refine Eq.trans (congrArg closed (?_ : _ = evCodeF cfg (orcF cfg 399) 6 (p6_5 n m (k.val : Int)).1 (p6_5 n m (k.val : Int)).2 [] (kBody cfg 6 0 Tryz.f6))) (show closed _ = _ from all6k n m j hj k)
  show evCodeF cfg (orcF cfg 399) 6 (p6_0 n m).1 (p6_0 n m).2 [] (kBody cfg 6 0 Tryz.f6) = _
  rw [evCodeF_eq, evCodeF_eq]
  exact from6 _ _ _ _ _ (to6_5k _ n m k) known6 hk
end Go.Proofs.YtdfeffddghpaoaaGreatDoor
