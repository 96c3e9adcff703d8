/- UnitMany: 30 definitions, of which one is wrong: places 20 to 29. -/
import Derived.Test.YtmhemnlcgjebkaaGreatDoorUMC2
set_option linter.unusedVariables false
set_option linter.unusedSectionVars false
set_option linter.unusedSimpArgs false
set_option linter.unnecessarySimpa false
namespace Go.Proofs.YtmhemnlcgjebkaaGreatDoor
open Go Go.Ev
noncomputable def q2_20 (n a : Int) : Code × S := stP (ov noQ 5 (some (.int .i64 20))) 3 1 (p3_k2_3 n a)
theorem to2_20 (n a : Int) (Q : Orc) (N : Code → S → O → Option (AV × O)) (K : Ex → S → O → Option (AV × O)) : evPre cfg (ov Q 5 (some (.int .i64 20))) 3 1 (p3_k2_3 n a).1 (p3_k2_3 n a).2 [] N K = N (q2_20 n a).1 (q2_20 n a).2 [] := by kernel_rfl
theorem wrong2_20 (n a : Int) : closed (evCodeF cfg (orcF cfg 399) 3 (q2_20 n a).1 (q2_20 n a).2 [] (kBody cfg 3 0 Tryz.f3)) = some (.bool true) := by kernel_rfl
theorem case2_20 (n a : Int) (h : (orcF cfg 399).clo 5 [.int .i64 a, .int .i64 30] = some (.int .i64 20)) : last3_k2_ n a = some (.bool true) := by
  have hr := wrong2_20 n a
  unfold last3_k2_
  rw [evCodeF_eq] at hr ⊢
  rw [← evPre_eq cfg (orcF cfg 399) 3 _ 1 (p3_k2_3 n a).1, at_k2, h, to2_20]
  exact hr
noncomputable def q2_21 (n a : Int) : Code × S := stP (ov noQ 5 (some (.int .i64 21))) 3 1 (p3_k2_3 n a)
theorem to2_21 (n a : Int) (Q : Orc) (N : Code → S → O → Option (AV × O)) (K : Ex → S → O → Option (AV × O)) : evPre cfg (ov Q 5 (some (.int .i64 21))) 3 1 (p3_k2_3 n a).1 (p3_k2_3 n a).2 [] N K = N (q2_21 n a).1 (q2_21 n a).2 [] := by kernel_rfl
theorem wrong2_21 (n a : Int) : closed (evCodeF cfg (orcF cfg 399) 3 (q2_21 n a).1 (q2_21 n a).2 [] (kBody cfg 3 0 Tryz.f3)) = some (.bool true) := by kernel_rfl
theorem case2_21 (n a : Int) (h : (orcF cfg 399).clo 5 [.int .i64 a, .int .i64 30] = some (.int .i64 21)) : last3_k2_ n a = some (.bool true) := by
  have hr := wrong2_21 n a
  unfold last3_k2_
  rw [evCodeF_eq] at hr ⊢
  rw [← evPre_eq cfg (orcF cfg 399) 3 _ 1 (p3_k2_3 n a).1, at_k2, h, to2_21]
  exact hr
noncomputable def q2_22 (n a : Int) : Code × S := stP (ov noQ 5 (some (.int .i64 22))) 3 1 (p3_k2_3 n a)
theorem to2_22 (n a : Int) (Q : Orc) (N : Code → S → O → Option (AV × O)) (K : Ex → S → O → Option (AV × O)) : evPre cfg (ov Q 5 (some (.int .i64 22))) 3 1 (p3_k2_3 n a).1 (p3_k2_3 n a).2 [] N K = N (q2_22 n a).1 (q2_22 n a).2 [] := by kernel_rfl
theorem wrong2_22 (n a : Int) : closed (evCodeF cfg (orcF cfg 399) 3 (q2_22 n a).1 (q2_22 n a).2 [] (kBody cfg 3 0 Tryz.f3)) = some (.bool true) := by kernel_rfl
theorem case2_22 (n a : Int) (h : (orcF cfg 399).clo 5 [.int .i64 a, .int .i64 30] = some (.int .i64 22)) : last3_k2_ n a = some (.bool true) := by
  have hr := wrong2_22 n a
  unfold last3_k2_
  rw [evCodeF_eq] at hr ⊢
  rw [← evPre_eq cfg (orcF cfg 399) 3 _ 1 (p3_k2_3 n a).1, at_k2, h, to2_22]
  exact hr
noncomputable def q2_23 (n a : Int) : Code × S := stP (ov noQ 5 (some (.int .i64 23))) 3 1 (p3_k2_3 n a)
theorem to2_23 (n a : Int) (Q : Orc) (N : Code → S → O → Option (AV × O)) (K : Ex → S → O → Option (AV × O)) : evPre cfg (ov Q 5 (some (.int .i64 23))) 3 1 (p3_k2_3 n a).1 (p3_k2_3 n a).2 [] N K = N (q2_23 n a).1 (q2_23 n a).2 [] := by kernel_rfl
theorem wrong2_23 (n a : Int) : closed (evCodeF cfg (orcF cfg 399) 3 (q2_23 n a).1 (q2_23 n a).2 [] (kBody cfg 3 0 Tryz.f3)) = some (.bool true) := by kernel_rfl
theorem case2_23 (n a : Int) (h : (orcF cfg 399).clo 5 [.int .i64 a, .int .i64 30] = some (.int .i64 23)) : last3_k2_ n a = some (.bool true) := by
  have hr := wrong2_23 n a
  unfold last3_k2_
  rw [evCodeF_eq] at hr ⊢
  rw [← evPre_eq cfg (orcF cfg 399) 3 _ 1 (p3_k2_3 n a).1, at_k2, h, to2_23]
  exact hr
noncomputable def q2_24 (n a : Int) : Code × S := stP (ov noQ 5 (some (.int .i64 24))) 3 1 (p3_k2_3 n a)
theorem to2_24 (n a : Int) (Q : Orc) (N : Code → S → O → Option (AV × O)) (K : Ex → S → O → Option (AV × O)) : evPre cfg (ov Q 5 (some (.int .i64 24))) 3 1 (p3_k2_3 n a).1 (p3_k2_3 n a).2 [] N K = N (q2_24 n a).1 (q2_24 n a).2 [] := by kernel_rfl
theorem wrong2_24 (n a : Int) : closed (evCodeF cfg (orcF cfg 399) 3 (q2_24 n a).1 (q2_24 n a).2 [] (kBody cfg 3 0 Tryz.f3)) = some (.bool true) := by kernel_rfl
theorem case2_24 (n a : Int) (h : (orcF cfg 399).clo 5 [.int .i64 a, .int .i64 30] = some (.int .i64 24)) : last3_k2_ n a = some (.bool true) := by
  have hr := wrong2_24 n a
  unfold last3_k2_
  rw [evCodeF_eq] at hr ⊢
  rw [← evPre_eq cfg (orcF cfg 399) 3 _ 1 (p3_k2_3 n a).1, at_k2, h, to2_24]
  exact hr
noncomputable def q2_25 (n a : Int) : Code × S := stP (ov noQ 5 (some (.int .i64 25))) 3 1 (p3_k2_3 n a)
theorem to2_25 (n a : Int) (Q : Orc) (N : Code → S → O → Option (AV × O)) (K : Ex → S → O → Option (AV × O)) : evPre cfg (ov Q 5 (some (.int .i64 25))) 3 1 (p3_k2_3 n a).1 (p3_k2_3 n a).2 [] N K = N (q2_25 n a).1 (q2_25 n a).2 [] := by kernel_rfl
theorem wrong2_25 (n a : Int) : closed (evCodeF cfg (orcF cfg 399) 3 (q2_25 n a).1 (q2_25 n a).2 [] (kBody cfg 3 0 Tryz.f3)) = some (.bool true) := by kernel_rfl
theorem case2_25 (n a : Int) (h : (orcF cfg 399).clo 5 [.int .i64 a, .int .i64 30] = some (.int .i64 25)) : last3_k2_ n a = some (.bool true) := by
  have hr := wrong2_25 n a
  unfold last3_k2_
  rw [evCodeF_eq] at hr ⊢
  rw [← evPre_eq cfg (orcF cfg 399) 3 _ 1 (p3_k2_3 n a).1, at_k2, h, to2_25]
  exact hr
noncomputable def q2_26 (n a : Int) : Code × S := stP (ov noQ 5 (some (.int .i64 26))) 3 1 (p3_k2_3 n a)
theorem to2_26 (n a : Int) (Q : Orc) (N : Code → S → O → Option (AV × O)) (K : Ex → S → O → Option (AV × O)) : evPre cfg (ov Q 5 (some (.int .i64 26))) 3 1 (p3_k2_3 n a).1 (p3_k2_3 n a).2 [] N K = N (q2_26 n a).1 (q2_26 n a).2 [] := by kernel_rfl
theorem wrong2_26 (n a : Int) : closed (evCodeF cfg (orcF cfg 399) 3 (q2_26 n a).1 (q2_26 n a).2 [] (kBody cfg 3 0 Tryz.f3)) = some (.bool true) := by kernel_rfl
theorem case2_26 (n a : Int) (h : (orcF cfg 399).clo 5 [.int .i64 a, .int .i64 30] = some (.int .i64 26)) : last3_k2_ n a = some (.bool true) := by
  have hr := wrong2_26 n a
  unfold last3_k2_
  rw [evCodeF_eq] at hr ⊢
  rw [← evPre_eq cfg (orcF cfg 399) 3 _ 1 (p3_k2_3 n a).1, at_k2, h, to2_26]
  exact hr
noncomputable def q2_27 (n a : Int) : Code × S := stP (ov noQ 5 (some (.int .i64 27))) 3 1 (p3_k2_3 n a)
theorem to2_27 (n a : Int) (Q : Orc) (N : Code → S → O → Option (AV × O)) (K : Ex → S → O → Option (AV × O)) : evPre cfg (ov Q 5 (some (.int .i64 27))) 3 1 (p3_k2_3 n a).1 (p3_k2_3 n a).2 [] N K = N (q2_27 n a).1 (q2_27 n a).2 [] := by kernel_rfl
theorem wrong2_27 (n a : Int) : closed (evCodeF cfg (orcF cfg 399) 3 (q2_27 n a).1 (q2_27 n a).2 [] (kBody cfg 3 0 Tryz.f3)) = some (.bool true) := by kernel_rfl
theorem case2_27 (n a : Int) (h : (orcF cfg 399).clo 5 [.int .i64 a, .int .i64 30] = some (.int .i64 27)) : last3_k2_ n a = some (.bool true) := by
  have hr := wrong2_27 n a
  unfold last3_k2_
  rw [evCodeF_eq] at hr ⊢
  rw [← evPre_eq cfg (orcF cfg 399) 3 _ 1 (p3_k2_3 n a).1, at_k2, h, to2_27]
  exact hr
noncomputable def q2_28 (n a : Int) : Code × S := stP (ov noQ 5 (some (.int .i64 28))) 3 1 (p3_k2_3 n a)
theorem to2_28 (n a : Int) (Q : Orc) (N : Code → S → O → Option (AV × O)) (K : Ex → S → O → Option (AV × O)) : evPre cfg (ov Q 5 (some (.int .i64 28))) 3 1 (p3_k2_3 n a).1 (p3_k2_3 n a).2 [] N K = N (q2_28 n a).1 (q2_28 n a).2 [] := by kernel_rfl
theorem wrong2_28 (n a : Int) : closed (evCodeF cfg (orcF cfg 399) 3 (q2_28 n a).1 (q2_28 n a).2 [] (kBody cfg 3 0 Tryz.f3)) = some (.bool true) := by kernel_rfl
theorem case2_28 (n a : Int) (h : (orcF cfg 399).clo 5 [.int .i64 a, .int .i64 30] = some (.int .i64 28)) : last3_k2_ n a = some (.bool true) := by
  have hr := wrong2_28 n a
  unfold last3_k2_
  rw [evCodeF_eq] at hr ⊢
  rw [← evPre_eq cfg (orcF cfg 399) 3 _ 1 (p3_k2_3 n a).1, at_k2, h, to2_28]
  exact hr
noncomputable def q2_29 (n a : Int) : Code × S := stP (ov noQ 5 (some (.int .i64 29))) 3 1 (p3_k2_3 n a)
theorem to2_29 (n a : Int) (Q : Orc) (N : Code → S → O → Option (AV × O)) (K : Ex → S → O → Option (AV × O)) : evPre cfg (ov Q 5 (some (.int .i64 29))) 3 1 (p3_k2_3 n a).1 (p3_k2_3 n a).2 [] N K = N (q2_29 n a).1 (q2_29 n a).2 [] := by kernel_rfl
theorem wrong2_29 (n a : Int) : closed (evCodeF cfg (orcF cfg 399) 3 (q2_29 n a).1 (q2_29 n a).2 [] (kBody cfg 3 0 Tryz.f3)) = some (.bool true) := by kernel_rfl
theorem case2_29 (n a : Int) (h : (orcF cfg 399).clo 5 [.int .i64 a, .int .i64 30] = some (.int .i64 29)) : last3_k2_ n a = some (.bool true) := by
  have hr := wrong2_29 n a
  unfold last3_k2_
  rw [evCodeF_eq] at hr ⊢
  rw [← evPre_eq cfg (orcF cfg 399) 3 _ 1 (p3_k2_3 n a).1, at_k2, h, to2_29]
  exact hr
end Go.Proofs.YtmhemnlcgjebkaaGreatDoor
