/- UnitMany: 30 definitions, of which one is wrong: places 0 to 9. -/
import Derived.Test.YtmhemnlcgjebkaaGreatDoorUMC2
set_option linter.unusedVariables false
set_option linter.unusedSectionVars false
set_option linter.unusedSimpArgs false
set_option linter.unnecessarySimpa false
namespace Go.Proofs.YtmhemnlcgjebkaaGreatDoor
open Go Go.Ev
noncomputable def q2_0 (n a : Int) : Code × S := stP (ov noQ 5 (some (.int .i64 0))) 3 1 (p3_k2_3 n a)
theorem to2_0 (n a : Int) (Q : Orc) (N : Code → S → O → Option (AV × O)) (K : Ex → S → O → Option (AV × O)) : evPre cfg (ov Q 5 (some (.int .i64 0))) 3 1 (p3_k2_3 n a).1 (p3_k2_3 n a).2 [] N K = N (q2_0 n a).1 (q2_0 n a).2 [] := by kernel_rfl
theorem wrong2_0 (n a : Int) : closed (evCodeF cfg (orcF cfg 399) 3 (q2_0 n a).1 (q2_0 n a).2 [] (kBody cfg 3 0 Tryz.f3)) = some (.bool true) := by kernel_rfl
theorem case2_0 (n a : Int) (h : (orcF cfg 399).clo 5 [.int .i64 a, .int .i64 30] = some (.int .i64 0)) : last3_k2_ n a = some (.bool true) := by
  have hr := wrong2_0 n a
  unfold last3_k2_
  rw [evCodeF_eq] at hr ⊢
  rw [← evPre_eq cfg (orcF cfg 399) 3 _ 1 (p3_k2_3 n a).1, at_k2, h, to2_0]
  exact hr
noncomputable def q2_1 (n a : Int) : Code × S := stP (ov noQ 5 (some (.int .i64 1))) 3 1 (p3_k2_3 n a)
theorem to2_1 (n a : Int) (Q : Orc) (N : Code → S → O → Option (AV × O)) (K : Ex → S → O → Option (AV × O)) : evPre cfg (ov Q 5 (some (.int .i64 1))) 3 1 (p3_k2_3 n a).1 (p3_k2_3 n a).2 [] N K = N (q2_1 n a).1 (q2_1 n a).2 [] := by kernel_rfl
theorem wrong2_1 (n a : Int) : closed (evCodeF cfg (orcF cfg 399) 3 (q2_1 n a).1 (q2_1 n a).2 [] (kBody cfg 3 0 Tryz.f3)) = some (.bool true) := by kernel_rfl
theorem case2_1 (n a : Int) (h : (orcF cfg 399).clo 5 [.int .i64 a, .int .i64 30] = some (.int .i64 1)) : last3_k2_ n a = some (.bool true) := by
  have hr := wrong2_1 n a
  unfold last3_k2_
  rw [evCodeF_eq] at hr ⊢
  rw [← evPre_eq cfg (orcF cfg 399) 3 _ 1 (p3_k2_3 n a).1, at_k2, h, to2_1]
  exact hr
noncomputable def q2_2 (n a : Int) : Code × S := stP (ov noQ 5 (some (.int .i64 2))) 3 1 (p3_k2_3 n a)
theorem to2_2 (n a : Int) (Q : Orc) (N : Code → S → O → Option (AV × O)) (K : Ex → S → O → Option (AV × O)) : evPre cfg (ov Q 5 (some (.int .i64 2))) 3 1 (p3_k2_3 n a).1 (p3_k2_3 n a).2 [] N K = N (q2_2 n a).1 (q2_2 n a).2 [] := by kernel_rfl
theorem wrong2_2 (n a : Int) : closed (evCodeF cfg (orcF cfg 399) 3 (q2_2 n a).1 (q2_2 n a).2 [] (kBody cfg 3 0 Tryz.f3)) = some (.bool true) := by kernel_rfl
theorem case2_2 (n a : Int) (h : (orcF cfg 399).clo 5 [.int .i64 a, .int .i64 30] = some (.int .i64 2)) : last3_k2_ n a = some (.bool true) := by
  have hr := wrong2_2 n a
  unfold last3_k2_
  rw [evCodeF_eq] at hr ⊢
  rw [← evPre_eq cfg (orcF cfg 399) 3 _ 1 (p3_k2_3 n a).1, at_k2, h, to2_2]
  exact hr
noncomputable def q2_3 (n a : Int) : Code × S := stP (ov noQ 5 (some (.int .i64 3))) 3 1 (p3_k2_3 n a)
theorem to2_3 (n a : Int) (Q : Orc) (N : Code → S → O → Option (AV × O)) (K : Ex → S → O → Option (AV × O)) : evPre cfg (ov Q 5 (some (.int .i64 3))) 3 1 (p3_k2_3 n a).1 (p3_k2_3 n a).2 [] N K = N (q2_3 n a).1 (q2_3 n a).2 [] := by kernel_rfl
theorem wrong2_3 (n a : Int) : closed (evCodeF cfg (orcF cfg 399) 3 (q2_3 n a).1 (q2_3 n a).2 [] (kBody cfg 3 0 Tryz.f3)) = some (.bool true) := by kernel_rfl
theorem case2_3 (n a : Int) (h : (orcF cfg 399).clo 5 [.int .i64 a, .int .i64 30] = some (.int .i64 3)) : last3_k2_ n a = some (.bool true) := by
  have hr := wrong2_3 n a
  unfold last3_k2_
  rw [evCodeF_eq] at hr ⊢
  rw [← evPre_eq cfg (orcF cfg 399) 3 _ 1 (p3_k2_3 n a).1, at_k2, h, to2_3]
  exact hr
noncomputable def q2_4 (n a : Int) : Code × S := stP (ov noQ 5 (some (.int .i64 4))) 3 1 (p3_k2_3 n a)
theorem to2_4 (n a : Int) (Q : Orc) (N : Code → S → O → Option (AV × O)) (K : Ex → S → O → Option (AV × O)) : evPre cfg (ov Q 5 (some (.int .i64 4))) 3 1 (p3_k2_3 n a).1 (p3_k2_3 n a).2 [] N K = N (q2_4 n a).1 (q2_4 n a).2 [] := by kernel_rfl
theorem wrong2_4 (n a : Int) : closed (evCodeF cfg (orcF cfg 399) 3 (q2_4 n a).1 (q2_4 n a).2 [] (kBody cfg 3 0 Tryz.f3)) = some (.bool true) := by kernel_rfl
theorem case2_4 (n a : Int) (h : (orcF cfg 399).clo 5 [.int .i64 a, .int .i64 30] = some (.int .i64 4)) : last3_k2_ n a = some (.bool true) := by
  have hr := wrong2_4 n a
  unfold last3_k2_
  rw [evCodeF_eq] at hr ⊢
  rw [← evPre_eq cfg (orcF cfg 399) 3 _ 1 (p3_k2_3 n a).1, at_k2, h, to2_4]
  exact hr
noncomputable def q2_5 (n a : Int) : Code × S := stP (ov noQ 5 (some (.int .i64 5))) 3 1 (p3_k2_3 n a)
theorem to2_5 (n a : Int) (Q : Orc) (N : Code → S → O → Option (AV × O)) (K : Ex → S → O → Option (AV × O)) : evPre cfg (ov Q 5 (some (.int .i64 5))) 3 1 (p3_k2_3 n a).1 (p3_k2_3 n a).2 [] N K = N (q2_5 n a).1 (q2_5 n a).2 [] := by kernel_rfl
theorem wrong2_5 (n a : Int) : closed (evCodeF cfg (orcF cfg 399) 3 (q2_5 n a).1 (q2_5 n a).2 [] (kBody cfg 3 0 Tryz.f3)) = some (.bool true) := by kernel_rfl
theorem case2_5 (n a : Int) (h : (orcF cfg 399).clo 5 [.int .i64 a, .int .i64 30] = some (.int .i64 5)) : last3_k2_ n a = some (.bool true) := by
  have hr := wrong2_5 n a
  unfold last3_k2_
  rw [evCodeF_eq] at hr ⊢
  rw [← evPre_eq cfg (orcF cfg 399) 3 _ 1 (p3_k2_3 n a).1, at_k2, h, to2_5]
  exact hr
noncomputable def q2_6 (n a : Int) : Code × S := stP (ov noQ 5 (some (.int .i64 6))) 3 1 (p3_k2_3 n a)
theorem to2_6 (n a : Int) (Q : Orc) (N : Code → S → O → Option (AV × O)) (K : Ex → S → O → Option (AV × O)) : evPre cfg (ov Q 5 (some (.int .i64 6))) 3 1 (p3_k2_3 n a).1 (p3_k2_3 n a).2 [] N K = N (q2_6 n a).1 (q2_6 n a).2 [] := by kernel_rfl
theorem wrong2_6 (n a : Int) : closed (evCodeF cfg (orcF cfg 399) 3 (q2_6 n a).1 (q2_6 n a).2 [] (kBody cfg 3 0 Tryz.f3)) = some (.bool true) := by kernel_rfl
theorem case2_6 (n a : Int) (h : (orcF cfg 399).clo 5 [.int .i64 a, .int .i64 30] = some (.int .i64 6)) : last3_k2_ n a = some (.bool true) := by
  have hr := wrong2_6 n a
  unfold last3_k2_
  rw [evCodeF_eq] at hr ⊢
  rw [← evPre_eq cfg (orcF cfg 399) 3 _ 1 (p3_k2_3 n a).1, at_k2, h, to2_6]
  exact hr
noncomputable def q2_7 (n a : Int) : Code × S := stP (ov noQ 5 (some (.int .i64 7))) 3 1 (p3_k2_3 n a)
theorem to2_7 (n a : Int) (Q : Orc) (N : Code → S → O → Option (AV × O)) (K : Ex → S → O → Option (AV × O)) : evPre cfg (ov Q 5 (some (.int .i64 7))) 3 1 (p3_k2_3 n a).1 (p3_k2_3 n a).2 [] N K = N (q2_7 n a).1 (q2_7 n a).2 [] := by kernel_rfl
theorem wrong2_7 (n a : Int) : closed (evCodeF cfg (orcF cfg 399) 3 (q2_7 n a).1 (q2_7 n a).2 [] (kBody cfg 3 0 Tryz.f3)) = some (.bool true) := by kernel_rfl
theorem case2_7 (n a : Int) (h : (orcF cfg 399).clo 5 [.int .i64 a, .int .i64 30] = some (.int .i64 7)) : last3_k2_ n a = some (.bool true) := by
  have hr := wrong2_7 n a
  unfold last3_k2_
  rw [evCodeF_eq] at hr ⊢
  rw [← evPre_eq cfg (orcF cfg 399) 3 _ 1 (p3_k2_3 n a).1, at_k2, h, to2_7]
  exact hr
noncomputable def q2_8 (n a : Int) : Code × S := stP (ov noQ 5 (some (.int .i64 8))) 3 1 (p3_k2_3 n a)
theorem to2_8 (n a : Int) (Q : Orc) (N : Code → S → O → Option (AV × O)) (K : Ex → S → O → Option (AV × O)) : evPre cfg (ov Q 5 (some (.int .i64 8))) 3 1 (p3_k2_3 n a).1 (p3_k2_3 n a).2 [] N K = N (q2_8 n a).1 (q2_8 n a).2 [] := by kernel_rfl
theorem wrong2_8 (n a : Int) : closed (evCodeF cfg (orcF cfg 399) 3 (q2_8 n a).1 (q2_8 n a).2 [] (kBody cfg 3 0 Tryz.f3)) = some (.bool true) := by kernel_rfl
theorem case2_8 (n a : Int) (h : (orcF cfg 399).clo 5 [.int .i64 a, .int .i64 30] = some (.int .i64 8)) : last3_k2_ n a = some (.bool true) := by
  have hr := wrong2_8 n a
  unfold last3_k2_
  rw [evCodeF_eq] at hr ⊢
  rw [← evPre_eq cfg (orcF cfg 399) 3 _ 1 (p3_k2_3 n a).1, at_k2, h, to2_8]
  exact hr
noncomputable def q2_9 (n a : Int) : Code × S := stP (ov noQ 5 (some (.int .i64 9))) 3 1 (p3_k2_3 n a)
theorem to2_9 (n a : Int) (Q : Orc) (N : Code → S → O → Option (AV × O)) (K : Ex → S → O → Option (AV × O)) : evPre cfg (ov Q 5 (some (.int .i64 9))) 3 1 (p3_k2_3 n a).1 (p3_k2_3 n a).2 [] N K = N (q2_9 n a).1 (q2_9 n a).2 [] := by kernel_rfl
theorem wrong2_9 (n a : Int) : closed (evCodeF cfg (orcF cfg 399) 3 (q2_9 n a).1 (q2_9 n a).2 [] (kBody cfg 3 0 Tryz.f3)) = some (.bool true) := by kernel_rfl
theorem case2_9 (n a : Int) (h : (orcF cfg 399).clo 5 [.int .i64 a, .int .i64 30] = some (.int .i64 9)) : last3_k2_ n a = some (.bool true) := by
  have hr := wrong2_9 n a
  unfold last3_k2_
  rw [evCodeF_eq] at hr ⊢
  rw [← evPre_eq cfg (orcF cfg 399) 3 _ 1 (p3_k2_3 n a).1, at_k2, h, to2_9]
  exact hr
end Go.Proofs.YtmhemnlcgjebkaaGreatDoor
