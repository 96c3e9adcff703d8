/- UnitMany: 30 definitions, of which one is wrong: places 10 to 19. -/
import Derived.Test.YtmhemnlcgjebkaaGreatDoorUMC2
set_option linter.unusedVariables false
set_option linter.unusedSectionVars false
set_option linter.unusedSimpArgs false
set_option linter.unnecessarySimpa false
namespace Go.Proofs.YtmhemnlcgjebkaaGreatDoor
open Go Go.Ev
noncomputable def q2_10 (n a : Int) : Code × S := stP (ov noQ 5 (some (.int .i64 10))) 3 1 (p3_k2_3 n a)
theorem to2_10 (n a : Int) (Q : Orc) (N : Code → S → O → Option (AV × O)) (K : Ex → S → O → Option (AV × O)) : evPre cfg (ov Q 5 (some (.int .i64 10))) 3 1 (p3_k2_3 n a).1 (p3_k2_3 n a).2 [] N K = N (q2_10 n a).1 (q2_10 n a).2 [] := by kernel_rfl
theorem wrong2_10 (n a : Int) : closed (evCodeF cfg (orcF cfg 399) 3 (q2_10 n a).1 (q2_10 n a).2 [] (kBody cfg 3 0 Tryz.f3)) = some (.bool true) := by kernel_rfl
theorem case2_10 (n a : Int) (h : (orcF cfg 399).clo 5 [.int .i64 a, .int .i64 30] = some (.int .i64 10)) : last3_k2_ n a = some (.bool true) := by
  have hr := wrong2_10 n a
  unfold last3_k2_
  rw [evCodeF_eq] at hr ⊢
  rw [← evPre_eq cfg (orcF cfg 399) 3 _ 1 (p3_k2_3 n a).1, at_k2, h, to2_10]
  exact hr
noncomputable def q2_11 (n a : Int) : Code × S := stP (ov noQ 5 (some (.int .i64 11))) 3 1 (p3_k2_3 n a)
theorem to2_11 (n a : Int) (Q : Orc) (N : Code → S → O → Option (AV × O)) (K : Ex → S → O → Option (AV × O)) : evPre cfg (ov Q 5 (some (.int .i64 11))) 3 1 (p3_k2_3 n a).1 (p3_k2_3 n a).2 [] N K = N (q2_11 n a).1 (q2_11 n a).2 [] := by kernel_rfl
theorem wrong2_11 (n a : Int) : closed (evCodeF cfg (orcF cfg 399) 3 (q2_11 n a).1 (q2_11 n a).2 [] (kBody cfg 3 0 Tryz.f3)) = some (.bool true) := by kernel_rfl
theorem case2_11 (n a : Int) (h : (orcF cfg 399).clo 5 [.int .i64 a, .int .i64 30] = some (.int .i64 11)) : last3_k2_ n a = some (.bool true) := by
  have hr := wrong2_11 n a
  unfold last3_k2_
  rw [evCodeF_eq] at hr ⊢
  rw [← evPre_eq cfg (orcF cfg 399) 3 _ 1 (p3_k2_3 n a).1, at_k2, h, to2_11]
  exact hr
noncomputable def q2_12 (n a : Int) : Code × S := stP (ov noQ 5 (some (.int .i64 12))) 3 1 (p3_k2_3 n a)
theorem to2_12 (n a : Int) (Q : Orc) (N : Code → S → O → Option (AV × O)) (K : Ex → S → O → Option (AV × O)) : evPre cfg (ov Q 5 (some (.int .i64 12))) 3 1 (p3_k2_3 n a).1 (p3_k2_3 n a).2 [] N K = N (q2_12 n a).1 (q2_12 n a).2 [] := by kernel_rfl
theorem wrong2_12 (n a : Int) : closed (evCodeF cfg (orcF cfg 399) 3 (q2_12 n a).1 (q2_12 n a).2 [] (kBody cfg 3 0 Tryz.f3)) = some (.bool true) := by kernel_rfl
theorem case2_12 (n a : Int) (h : (orcF cfg 399).clo 5 [.int .i64 a, .int .i64 30] = some (.int .i64 12)) : last3_k2_ n a = some (.bool true) := by
  have hr := wrong2_12 n a
  unfold last3_k2_
  rw [evCodeF_eq] at hr ⊢
  rw [← evPre_eq cfg (orcF cfg 399) 3 _ 1 (p3_k2_3 n a).1, at_k2, h, to2_12]
  exact hr
noncomputable def q2_13 (n a : Int) : Code × S := stP (ov noQ 5 (some (.int .i64 13))) 3 1 (p3_k2_3 n a)
theorem to2_13 (n a : Int) (Q : Orc) (N : Code → S → O → Option (AV × O)) (K : Ex → S → O → Option (AV × O)) : evPre cfg (ov Q 5 (some (.int .i64 13))) 3 1 (p3_k2_3 n a).1 (p3_k2_3 n a).2 [] N K = N (q2_13 n a).1 (q2_13 n a).2 [] := by kernel_rfl
theorem wrong2_13 (n a : Int) : closed (evCodeF cfg (orcF cfg 399) 3 (q2_13 n a).1 (q2_13 n a).2 [] (kBody cfg 3 0 Tryz.f3)) = some (.bool true) := by kernel_rfl
theorem case2_13 (n a : Int) (h : (orcF cfg 399).clo 5 [.int .i64 a, .int .i64 30] = some (.int .i64 13)) : last3_k2_ n a = some (.bool true) := by
  have hr := wrong2_13 n a
  unfold last3_k2_
  rw [evCodeF_eq] at hr ⊢
  rw [← evPre_eq cfg (orcF cfg 399) 3 _ 1 (p3_k2_3 n a).1, at_k2, h, to2_13]
  exact hr
noncomputable def q2_14 (n a : Int) : Code × S := stP (ov noQ 5 (some (.int .i64 14))) 3 1 (p3_k2_3 n a)
theorem to2_14 (n a : Int) (Q : Orc) (N : Code → S → O → Option (AV × O)) (K : Ex → S → O → Option (AV × O)) : evPre cfg (ov Q 5 (some (.int .i64 14))) 3 1 (p3_k2_3 n a).1 (p3_k2_3 n a).2 [] N K = N (q2_14 n a).1 (q2_14 n a).2 [] := by kernel_rfl
theorem wrong2_14 (n a : Int) : closed (evCodeF cfg (orcF cfg 399) 3 (q2_14 n a).1 (q2_14 n a).2 [] (kBody cfg 3 0 Tryz.f3)) = some (.bool true) := by kernel_rfl
theorem case2_14 (n a : Int) (h : (orcF cfg 399).clo 5 [.int .i64 a, .int .i64 30] = some (.int .i64 14)) : last3_k2_ n a = some (.bool true) := by
  have hr := wrong2_14 n a
  unfold last3_k2_
  rw [evCodeF_eq] at hr ⊢
  rw [← evPre_eq cfg (orcF cfg 399) 3 _ 1 (p3_k2_3 n a).1, at_k2, h, to2_14]
  exact hr
noncomputable def q2_15 (n a : Int) : Code × S := stP (ov noQ 5 (some (.int .i64 15))) 3 1 (p3_k2_3 n a)
theorem to2_15 (n a : Int) (Q : Orc) (N : Code → S → O → Option (AV × O)) (K : Ex → S → O → Option (AV × O)) : evPre cfg (ov Q 5 (some (.int .i64 15))) 3 1 (p3_k2_3 n a).1 (p3_k2_3 n a).2 [] N K = N (q2_15 n a).1 (q2_15 n a).2 [] := by kernel_rfl
theorem wrong2_15 (n a : Int) : closed (evCodeF cfg (orcF cfg 399) 3 (q2_15 n a).1 (q2_15 n a).2 [] (kBody cfg 3 0 Tryz.f3)) = some (.bool true) := by kernel_rfl
theorem case2_15 (n a : Int) (h : (orcF cfg 399).clo 5 [.int .i64 a, .int .i64 30] = some (.int .i64 15)) : last3_k2_ n a = some (.bool true) := by
  have hr := wrong2_15 n a
  unfold last3_k2_
  rw [evCodeF_eq] at hr ⊢
  rw [← evPre_eq cfg (orcF cfg 399) 3 _ 1 (p3_k2_3 n a).1, at_k2, h, to2_15]
  exact hr
noncomputable def q2_16 (n a : Int) : Code × S := stP (ov noQ 5 (some (.int .i64 16))) 3 1 (p3_k2_3 n a)
theorem to2_16 (n a : Int) (Q : Orc) (N : Code → S → O → Option (AV × O)) (K : Ex → S → O → Option (AV × O)) : evPre cfg (ov Q 5 (some (.int .i64 16))) 3 1 (p3_k2_3 n a).1 (p3_k2_3 n a).2 [] N K = N (q2_16 n a).1 (q2_16 n a).2 [] := by kernel_rfl
theorem wrong2_16 (n a : Int) : closed (evCodeF cfg (orcF cfg 399) 3 (q2_16 n a).1 (q2_16 n a).2 [] (kBody cfg 3 0 Tryz.f3)) = some (.bool true) := by kernel_rfl
theorem case2_16 (n a : Int) (h : (orcF cfg 399).clo 5 [.int .i64 a, .int .i64 30] = some (.int .i64 16)) : last3_k2_ n a = some (.bool true) := by
  have hr := wrong2_16 n a
  unfold last3_k2_
  rw [evCodeF_eq] at hr ⊢
  rw [← evPre_eq cfg (orcF cfg 399) 3 _ 1 (p3_k2_3 n a).1, at_k2, h, to2_16]
  exact hr
noncomputable def q2_17 (n a : Int) : Code × S := stP (ov noQ 5 (some (.int .i64 17))) 3 1 (p3_k2_3 n a)
theorem to2_17 (n a : Int) (Q : Orc) (N : Code → S → O → Option (AV × O)) (K : Ex → S → O → Option (AV × O)) : evPre cfg (ov Q 5 (some (.int .i64 17))) 3 1 (p3_k2_3 n a).1 (p3_k2_3 n a).2 [] N K = N (q2_17 n a).1 (q2_17 n a).2 [] := by kernel_rfl
theorem wrong2_17 (n a : Int) : closed (evCodeF cfg (orcF cfg 399) 3 (q2_17 n a).1 (q2_17 n a).2 [] (kBody cfg 3 0 Tryz.f3)) = some (.bool true) := by kernel_rfl
theorem case2_17 (n a : Int) (h : (orcF cfg 399).clo 5 [.int .i64 a, .int .i64 30] = some (.int .i64 17)) : last3_k2_ n a = some (.bool true) := by
  have hr := wrong2_17 n a
  unfold last3_k2_
  rw [evCodeF_eq] at hr ⊢
  rw [← evPre_eq cfg (orcF cfg 399) 3 _ 1 (p3_k2_3 n a).1, at_k2, h, to2_17]
  exact hr
noncomputable def q2_18 (n a : Int) : Code × S := stP (ov noQ 5 (some (.int .i64 18))) 3 1 (p3_k2_3 n a)
theorem to2_18 (n a : Int) (Q : Orc) (N : Code → S → O → Option (AV × O)) (K : Ex → S → O → Option (AV × O)) : evPre cfg (ov Q 5 (some (.int .i64 18))) 3 1 (p3_k2_3 n a).1 (p3_k2_3 n a).2 [] N K = N (q2_18 n a).1 (q2_18 n a).2 [] := by kernel_rfl
theorem wrong2_18 (n a : Int) : closed (evCodeF cfg (orcF cfg 399) 3 (q2_18 n a).1 (q2_18 n a).2 [] (kBody cfg 3 0 Tryz.f3)) = some (.bool true) := by kernel_rfl
theorem case2_18 (n a : Int) (h : (orcF cfg 399).clo 5 [.int .i64 a, .int .i64 30] = some (.int .i64 18)) : last3_k2_ n a = some (.bool true) := by
  have hr := wrong2_18 n a
  unfold last3_k2_
  rw [evCodeF_eq] at hr ⊢
  rw [← evPre_eq cfg (orcF cfg 399) 3 _ 1 (p3_k2_3 n a).1, at_k2, h, to2_18]
  exact hr
noncomputable def q2_19 (n a : Int) : Code × S := stP (ov noQ 5 (some (.int .i64 19))) 3 1 (p3_k2_3 n a)
theorem to2_19 (n a : Int) (Q : Orc) (N : Code → S → O → Option (AV × O)) (K : Ex → S → O → Option (AV × O)) : evPre cfg (ov Q 5 (some (.int .i64 19))) 3 1 (p3_k2_3 n a).1 (p3_k2_3 n a).2 [] N K = N (q2_19 n a).1 (q2_19 n a).2 [] := by kernel_rfl
theorem wrong2_19 (n a : Int) : closed (evCodeF cfg (orcF cfg 399) 3 (q2_19 n a).1 (q2_19 n a).2 [] (kBody cfg 3 0 Tryz.f3)) = some (.bool true) := by kernel_rfl
theorem case2_19 (n a : Int) (h : (orcF cfg 399).clo 5 [.int .i64 a, .int .i64 30] = some (.int .i64 19)) : last3_k2_ n a = some (.bool true) := by
  have hr := wrong2_19 n a
  unfold last3_k2_
  rw [evCodeF_eq] at hr ⊢
  rw [← evPre_eq cfg (orcF cfg 399) 3 _ 1 (p3_k2_3 n a).1, at_k2, h, to2_19]
  exact hr
end Go.Proofs.YtmhemnlcgjebkaaGreatDoor
