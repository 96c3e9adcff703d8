/- UnitMany: 29 definitions, of which one is wrong: places 20 to 28. -/
import Derived.Test.YtmhemnlcgjebkaaGreatDoorUMC1
set_option linter.unusedVariables false
set_option linter.unusedSectionVars false
set_option linter.unusedSimpArgs false
set_option linter.unnecessarySimpa false
namespace Go.Proofs.YtmhemnlcgjebkaaGreatDoor
open Go Go.Ev
noncomputable def q1_20 (n a : Int) : Code × S := stP (ov noQ 5 (some (.int .i64 20))) 3 1 (p3_k1_3 n a)
theorem to1_20 (n a : Int) (Q : Orc) (N : Code → S → O → Option (AV × O)) (K : Ex → S → O → Option (AV × O)) : evPre cfg (ov Q 5 (some (.int .i64 20))) 3 1 (p3_k1_3 n a).1 (p3_k1_3 n a).2 [] N K = N (q1_20 n a).1 (q1_20 n a).2 [] := by kernel_rfl
theorem wrong1_20 (n a : Int) : closed (evCodeF cfg (orcF cfg 399) 3 (q1_20 n a).1 (q1_20 n a).2 [] (kBody cfg 3 0 Tryz.f3)) = some (.bool true) := by kernel_rfl
theorem case1_20 (n a : Int) (h : (orcF cfg 399).clo 5 [.int .i64 a, .int .i64 29] = some (.int .i64 20)) : last3_k1_ n a = some (.bool true) := by
  have hr := wrong1_20 n a
  unfold last3_k1_
  rw [evCodeF_eq] at hr ⊢
  rw [← evPre_eq cfg (orcF cfg 399) 3 _ 1 (p3_k1_3 n a).1, at_k1, h, to1_20]
  exact hr
noncomputable def q1_21 (n a : Int) : Code × S := stP (ov noQ 5 (some (.int .i64 21))) 3 1 (p3_k1_3 n a)
theorem to1_21 (n a : Int) (Q : Orc) (N : Code → S → O → Option (AV × O)) (K : Ex → S → O → Option (AV × O)) : evPre cfg (ov Q 5 (some (.int .i64 21))) 3 1 (p3_k1_3 n a).1 (p3_k1_3 n a).2 [] N K = N (q1_21 n a).1 (q1_21 n a).2 [] := by kernel_rfl
theorem wrong1_21 (n a : Int) : closed (evCodeF cfg (orcF cfg 399) 3 (q1_21 n a).1 (q1_21 n a).2 [] (kBody cfg 3 0 Tryz.f3)) = some (.bool true) := by kernel_rfl
theorem case1_21 (n a : Int) (h : (orcF cfg 399).clo 5 [.int .i64 a, .int .i64 29] = some (.int .i64 21)) : last3_k1_ n a = some (.bool true) := by
  have hr := wrong1_21 n a
  unfold last3_k1_
  rw [evCodeF_eq] at hr ⊢
  rw [← evPre_eq cfg (orcF cfg 399) 3 _ 1 (p3_k1_3 n a).1, at_k1, h, to1_21]
  exact hr
noncomputable def q1_22 (n a : Int) : Code × S := stP (ov noQ 5 (some (.int .i64 22))) 3 1 (p3_k1_3 n a)
theorem to1_22 (n a : Int) (Q : Orc) (N : Code → S → O → Option (AV × O)) (K : Ex → S → O → Option (AV × O)) : evPre cfg (ov Q 5 (some (.int .i64 22))) 3 1 (p3_k1_3 n a).1 (p3_k1_3 n a).2 [] N K = N (q1_22 n a).1 (q1_22 n a).2 [] := by kernel_rfl
theorem wrong1_22 (n a : Int) : closed (evCodeF cfg (orcF cfg 399) 3 (q1_22 n a).1 (q1_22 n a).2 [] (kBody cfg 3 0 Tryz.f3)) = some (.bool true) := by kernel_rfl
theorem case1_22 (n a : Int) (h : (orcF cfg 399).clo 5 [.int .i64 a, .int .i64 29] = some (.int .i64 22)) : last3_k1_ n a = some (.bool true) := by
  have hr := wrong1_22 n a
  unfold last3_k1_
  rw [evCodeF_eq] at hr ⊢
  rw [← evPre_eq cfg (orcF cfg 399) 3 _ 1 (p3_k1_3 n a).1, at_k1, h, to1_22]
  exact hr
noncomputable def q1_23 (n a : Int) : Code × S := stP (ov noQ 5 (some (.int .i64 23))) 3 1 (p3_k1_3 n a)
theorem to1_23 (n a : Int) (Q : Orc) (N : Code → S → O → Option (AV × O)) (K : Ex → S → O → Option (AV × O)) : evPre cfg (ov Q 5 (some (.int .i64 23))) 3 1 (p3_k1_3 n a).1 (p3_k1_3 n a).2 [] N K = N (q1_23 n a).1 (q1_23 n a).2 [] := by kernel_rfl
theorem wrong1_23 (n a : Int) : closed (evCodeF cfg (orcF cfg 399) 3 (q1_23 n a).1 (q1_23 n a).2 [] (kBody cfg 3 0 Tryz.f3)) = some (.bool true) := by kernel_rfl
theorem case1_23 (n a : Int) (h : (orcF cfg 399).clo 5 [.int .i64 a, .int .i64 29] = some (.int .i64 23)) : last3_k1_ n a = some (.bool true) := by
  have hr := wrong1_23 n a
  unfold last3_k1_
  rw [evCodeF_eq] at hr ⊢
  rw [← evPre_eq cfg (orcF cfg 399) 3 _ 1 (p3_k1_3 n a).1, at_k1, h, to1_23]
  exact hr
noncomputable def q1_24 (n a : Int) : Code × S := stP (ov noQ 5 (some (.int .i64 24))) 3 1 (p3_k1_3 n a)
theorem to1_24 (n a : Int) (Q : Orc) (N : Code → S → O → Option (AV × O)) (K : Ex → S → O → Option (AV × O)) : evPre cfg (ov Q 5 (some (.int .i64 24))) 3 1 (p3_k1_3 n a).1 (p3_k1_3 n a).2 [] N K = N (q1_24 n a).1 (q1_24 n a).2 [] := by kernel_rfl
theorem wrong1_24 (n a : Int) : closed (evCodeF cfg (orcF cfg 399) 3 (q1_24 n a).1 (q1_24 n a).2 [] (kBody cfg 3 0 Tryz.f3)) = some (.bool true) := by kernel_rfl
theorem case1_24 (n a : Int) (h : (orcF cfg 399).clo 5 [.int .i64 a, .int .i64 29] = some (.int .i64 24)) : last3_k1_ n a = some (.bool true) := by
  have hr := wrong1_24 n a
  unfold last3_k1_
  rw [evCodeF_eq] at hr ⊢
  rw [← evPre_eq cfg (orcF cfg 399) 3 _ 1 (p3_k1_3 n a).1, at_k1, h, to1_24]
  exact hr
noncomputable def q1_25 (n a : Int) : Code × S := stP (ov noQ 5 (some (.int .i64 25))) 3 1 (p3_k1_3 n a)
theorem to1_25 (n a : Int) (Q : Orc) (N : Code → S → O → Option (AV × O)) (K : Ex → S → O → Option (AV × O)) : evPre cfg (ov Q 5 (some (.int .i64 25))) 3 1 (p3_k1_3 n a).1 (p3_k1_3 n a).2 [] N K = N (q1_25 n a).1 (q1_25 n a).2 [] := by kernel_rfl
theorem wrong1_25 (n a : Int) : closed (evCodeF cfg (orcF cfg 399) 3 (q1_25 n a).1 (q1_25 n a).2 [] (kBody cfg 3 0 Tryz.f3)) = some (.bool true) := by kernel_rfl
theorem case1_25 (n a : Int) (h : (orcF cfg 399).clo 5 [.int .i64 a, .int .i64 29] = some (.int .i64 25)) : last3_k1_ n a = some (.bool true) := by
  have hr := wrong1_25 n a
  unfold last3_k1_
  rw [evCodeF_eq] at hr ⊢
  rw [← evPre_eq cfg (orcF cfg 399) 3 _ 1 (p3_k1_3 n a).1, at_k1, h, to1_25]
  exact hr
noncomputable def q1_26 (n a : Int) : Code × S := stP (ov noQ 5 (some (.int .i64 26))) 3 1 (p3_k1_3 n a)
theorem to1_26 (n a : Int) (Q : Orc) (N : Code → S → O → Option (AV × O)) (K : Ex → S → O → Option (AV × O)) : evPre cfg (ov Q 5 (some (.int .i64 26))) 3 1 (p3_k1_3 n a).1 (p3_k1_3 n a).2 [] N K = N (q1_26 n a).1 (q1_26 n a).2 [] := by kernel_rfl
theorem wrong1_26 (n a : Int) : closed (evCodeF cfg (orcF cfg 399) 3 (q1_26 n a).1 (q1_26 n a).2 [] (kBody cfg 3 0 Tryz.f3)) = some (.bool true) := by kernel_rfl
theorem case1_26 (n a : Int) (h : (orcF cfg 399).clo 5 [.int .i64 a, .int .i64 29] = some (.int .i64 26)) : last3_k1_ n a = some (.bool true) := by
  have hr := wrong1_26 n a
  unfold last3_k1_
  rw [evCodeF_eq] at hr ⊢
  rw [← evPre_eq cfg (orcF cfg 399) 3 _ 1 (p3_k1_3 n a).1, at_k1, h, to1_26]
  exact hr
noncomputable def q1_27 (n a : Int) : Code × S := stP (ov noQ 5 (some (.int .i64 27))) 3 1 (p3_k1_3 n a)
theorem to1_27 (n a : Int) (Q : Orc) (N : Code → S → O → Option (AV × O)) (K : Ex → S → O → Option (AV × O)) : evPre cfg (ov Q 5 (some (.int .i64 27))) 3 1 (p3_k1_3 n a).1 (p3_k1_3 n a).2 [] N K = N (q1_27 n a).1 (q1_27 n a).2 [] := by kernel_rfl
theorem wrong1_27 (n a : Int) : closed (evCodeF cfg (orcF cfg 399) 3 (q1_27 n a).1 (q1_27 n a).2 [] (kBody cfg 3 0 Tryz.f3)) = some (.bool true) := by kernel_rfl
theorem case1_27 (n a : Int) (h : (orcF cfg 399).clo 5 [.int .i64 a, .int .i64 29] = some (.int .i64 27)) : last3_k1_ n a = some (.bool true) := by
  have hr := wrong1_27 n a
  unfold last3_k1_
  rw [evCodeF_eq] at hr ⊢
  rw [← evPre_eq cfg (orcF cfg 399) 3 _ 1 (p3_k1_3 n a).1, at_k1, h, to1_27]
  exact hr
noncomputable def q1_28 (n a : Int) : Code × S := stP (ov noQ 5 (some (.int .i64 28))) 3 1 (p3_k1_3 n a)
theorem to1_28 (n a : Int) (Q : Orc) (N : Code → S → O → Option (AV × O)) (K : Ex → S → O → Option (AV × O)) : evPre cfg (ov Q 5 (some (.int .i64 28))) 3 1 (p3_k1_3 n a).1 (p3_k1_3 n a).2 [] N K = N (q1_28 n a).1 (q1_28 n a).2 [] := by kernel_rfl
theorem wrong1_28 (n a : Int) : closed (evCodeF cfg (orcF cfg 399) 3 (q1_28 n a).1 (q1_28 n a).2 [] (kBody cfg 3 0 Tryz.f3)) = some (.bool true) := by kernel_rfl
theorem case1_28 (n a : Int) (h : (orcF cfg 399).clo 5 [.int .i64 a, .int .i64 29] = some (.int .i64 28)) : last3_k1_ n a = some (.bool true) := by
  have hr := wrong1_28 n a
  unfold last3_k1_
  rw [evCodeF_eq] at hr ⊢
  rw [← evPre_eq cfg (orcF cfg 399) 3 _ 1 (p3_k1_3 n a).1, at_k1, h, to1_28]
  exact hr
end Go.Proofs.YtmhemnlcgjebkaaGreatDoor
