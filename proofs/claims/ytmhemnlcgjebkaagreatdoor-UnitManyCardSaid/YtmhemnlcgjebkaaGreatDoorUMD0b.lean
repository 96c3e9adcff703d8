/- UnitMany: 28 definitions, of which one is wrong: places 10 to 19. -/
import Derived.Test.YtmhemnlcgjebkaaGreatDoorUMC0
set_option linter.unusedVariables false
set_option linter.unusedSectionVars false
set_option linter.unusedSimpArgs false
set_option linter.unnecessarySimpa false
namespace Go.Proofs.YtmhemnlcgjebkaaGreatDoor
open Go Go.Ev
noncomputable def q0_10 (n a : Int) : Code × S := stP (ov noQ 5 (some (.int .i64 10))) 3 1 (p3_k0_3 n a)
theorem to0_10 (n a : Int) (Q : Orc) (N : Code → S → O → Option (AV × O)) (K : Ex → S → O → Option (AV × O)) : evPre cfg (ov Q 5 (some (.int .i64 10))) 3 1 (p3_k0_3 n a).1 (p3_k0_3 n a).2 [] N K = N (q0_10 n a).1 (q0_10 n a).2 [] := by kernel_rfl
theorem wrong0_10 (n a : Int) : closed (evCodeF cfg (orcF cfg 399) 3 (q0_10 n a).1 (q0_10 n a).2 [] (kBody cfg 3 0 Tryz.f3)) = some (.bool true) := by kernel_rfl
theorem case0_10 (n a : Int) (h : (orcF cfg 399).clo 5 [.int .i64 a, .int .i64 28] = some (.int .i64 10)) : last3_k0_ n a = some (.bool true) := by
  have hr := wrong0_10 n a
  unfold last3_k0_
  rw [evCodeF_eq] at hr ⊢
  rw [← evPre_eq cfg (orcF cfg 399) 3 _ 1 (p3_k0_3 n a).1, at_k0, h, to0_10]
  exact hr
noncomputable def q0_11 (n a : Int) : Code × S := stP (ov noQ 5 (some (.int .i64 11))) 3 1 (p3_k0_3 n a)
theorem to0_11 (n a : Int) (Q : Orc) (N : Code → S → O → Option (AV × O)) (K : Ex → S → O → Option (AV × O)) : evPre cfg (ov Q 5 (some (.int .i64 11))) 3 1 (p3_k0_3 n a).1 (p3_k0_3 n a).2 [] N K = N (q0_11 n a).1 (q0_11 n a).2 [] := by kernel_rfl
theorem wrong0_11 (n a : Int) : closed (evCodeF cfg (orcF cfg 399) 3 (q0_11 n a).1 (q0_11 n a).2 [] (kBody cfg 3 0 Tryz.f3)) = some (.bool true) := by kernel_rfl
theorem case0_11 (n a : Int) (h : (orcF cfg 399).clo 5 [.int .i64 a, .int .i64 28] = some (.int .i64 11)) : last3_k0_ n a = some (.bool true) := by
  have hr := wrong0_11 n a
  unfold last3_k0_
  rw [evCodeF_eq] at hr ⊢
  rw [← evPre_eq cfg (orcF cfg 399) 3 _ 1 (p3_k0_3 n a).1, at_k0, h, to0_11]
  exact hr
noncomputable def q0_12 (n a : Int) : Code × S := stP (ov noQ 5 (some (.int .i64 12))) 3 1 (p3_k0_3 n a)
theorem to0_12 (n a : Int) (Q : Orc) (N : Code → S → O → Option (AV × O)) (K : Ex → S → O → Option (AV × O)) : evPre cfg (ov Q 5 (some (.int .i64 12))) 3 1 (p3_k0_3 n a).1 (p3_k0_3 n a).2 [] N K = N (q0_12 n a).1 (q0_12 n a).2 [] := by kernel_rfl
theorem wrong0_12 (n a : Int) : closed (evCodeF cfg (orcF cfg 399) 3 (q0_12 n a).1 (q0_12 n a).2 [] (kBody cfg 3 0 Tryz.f3)) = some (.bool true) := by kernel_rfl
theorem case0_12 (n a : Int) (h : (orcF cfg 399).clo 5 [.int .i64 a, .int .i64 28] = some (.int .i64 12)) : last3_k0_ n a = some (.bool true) := by
  have hr := wrong0_12 n a
  unfold last3_k0_
  rw [evCodeF_eq] at hr ⊢
  rw [← evPre_eq cfg (orcF cfg 399) 3 _ 1 (p3_k0_3 n a).1, at_k0, h, to0_12]
  exact hr
noncomputable def q0_13 (n a : Int) : Code × S := stP (ov noQ 5 (some (.int .i64 13))) 3 1 (p3_k0_3 n a)
theorem to0_13 (n a : Int) (Q : Orc) (N : Code → S → O → Option (AV × O)) (K : Ex → S → O → Option (AV × O)) : evPre cfg (ov Q 5 (some (.int .i64 13))) 3 1 (p3_k0_3 n a).1 (p3_k0_3 n a).2 [] N K = N (q0_13 n a).1 (q0_13 n a).2 [] := by kernel_rfl
theorem wrong0_13 (n a : Int) : closed (evCodeF cfg (orcF cfg 399) 3 (q0_13 n a).1 (q0_13 n a).2 [] (kBody cfg 3 0 Tryz.f3)) = some (.bool true) := by kernel_rfl
theorem case0_13 (n a : Int) (h : (orcF cfg 399).clo 5 [.int .i64 a, .int .i64 28] = some (.int .i64 13)) : last3_k0_ n a = some (.bool true) := by
  have hr := wrong0_13 n a
  unfold last3_k0_
  rw [evCodeF_eq] at hr ⊢
  rw [← evPre_eq cfg (orcF cfg 399) 3 _ 1 (p3_k0_3 n a).1, at_k0, h, to0_13]
  exact hr
noncomputable def q0_14 (n a : Int) : Code × S := stP (ov noQ 5 (some (.int .i64 14))) 3 1 (p3_k0_3 n a)
theorem to0_14 (n a : Int) (Q : Orc) (N : Code → S → O → Option (AV × O)) (K : Ex → S → O → Option (AV × O)) : evPre cfg (ov Q 5 (some (.int .i64 14))) 3 1 (p3_k0_3 n a).1 (p3_k0_3 n a).2 [] N K = N (q0_14 n a).1 (q0_14 n a).2 [] := by kernel_rfl
theorem wrong0_14 (n a : Int) : closed (evCodeF cfg (orcF cfg 399) 3 (q0_14 n a).1 (q0_14 n a).2 [] (kBody cfg 3 0 Tryz.f3)) = some (.bool true) := by kernel_rfl
theorem case0_14 (n a : Int) (h : (orcF cfg 399).clo 5 [.int .i64 a, .int .i64 28] = some (.int .i64 14)) : last3_k0_ n a = some (.bool true) := by
  have hr := wrong0_14 n a
  unfold last3_k0_
  rw [evCodeF_eq] at hr ⊢
  rw [← evPre_eq cfg (orcF cfg 399) 3 _ 1 (p3_k0_3 n a).1, at_k0, h, to0_14]
  exact hr
noncomputable def q0_15 (n a : Int) : Code × S := stP (ov noQ 5 (some (.int .i64 15))) 3 1 (p3_k0_3 n a)
theorem to0_15 (n a : Int) (Q : Orc) (N : Code → S → O → Option (AV × O)) (K : Ex → S → O → Option (AV × O)) : evPre cfg (ov Q 5 (some (.int .i64 15))) 3 1 (p3_k0_3 n a).1 (p3_k0_3 n a).2 [] N K = N (q0_15 n a).1 (q0_15 n a).2 [] := by kernel_rfl
theorem wrong0_15 (n a : Int) : closed (evCodeF cfg (orcF cfg 399) 3 (q0_15 n a).1 (q0_15 n a).2 [] (kBody cfg 3 0 Tryz.f3)) = some (.bool true) := by kernel_rfl
theorem case0_15 (n a : Int) (h : (orcF cfg 399).clo 5 [.int .i64 a, .int .i64 28] = some (.int .i64 15)) : last3_k0_ n a = some (.bool true) := by
  have hr := wrong0_15 n a
  unfold last3_k0_
  rw [evCodeF_eq] at hr ⊢
  rw [← evPre_eq cfg (orcF cfg 399) 3 _ 1 (p3_k0_3 n a).1, at_k0, h, to0_15]
  exact hr
noncomputable def q0_16 (n a : Int) : Code × S := stP (ov noQ 5 (some (.int .i64 16))) 3 1 (p3_k0_3 n a)
theorem to0_16 (n a : Int) (Q : Orc) (N : Code → S → O → Option (AV × O)) (K : Ex → S → O → Option (AV × O)) : evPre cfg (ov Q 5 (some (.int .i64 16))) 3 1 (p3_k0_3 n a).1 (p3_k0_3 n a).2 [] N K = N (q0_16 n a).1 (q0_16 n a).2 [] := by kernel_rfl
theorem wrong0_16 (n a : Int) : closed (evCodeF cfg (orcF cfg 399) 3 (q0_16 n a).1 (q0_16 n a).2 [] (kBody cfg 3 0 Tryz.f3)) = some (.bool true) := by kernel_rfl
theorem case0_16 (n a : Int) (h : (orcF cfg 399).clo 5 [.int .i64 a, .int .i64 28] = some (.int .i64 16)) : last3_k0_ n a = some (.bool true) := by
  have hr := wrong0_16 n a
  unfold last3_k0_
  rw [evCodeF_eq] at hr ⊢
  rw [← evPre_eq cfg (orcF cfg 399) 3 _ 1 (p3_k0_3 n a).1, at_k0, h, to0_16]
  exact hr
noncomputable def q0_17 (n a : Int) : Code × S := stP (ov noQ 5 (some (.int .i64 17))) 3 1 (p3_k0_3 n a)
theorem to0_17 (n a : Int) (Q : Orc) (N : Code → S → O → Option (AV × O)) (K : Ex → S → O → Option (AV × O)) : evPre cfg (ov Q 5 (some (.int .i64 17))) 3 1 (p3_k0_3 n a).1 (p3_k0_3 n a).2 [] N K = N (q0_17 n a).1 (q0_17 n a).2 [] := by kernel_rfl
theorem wrong0_17 (n a : Int) : closed (evCodeF cfg (orcF cfg 399) 3 (q0_17 n a).1 (q0_17 n a).2 [] (kBody cfg 3 0 Tryz.f3)) = some (.bool true) := by kernel_rfl
theorem case0_17 (n a : Int) (h : (orcF cfg 399).clo 5 [.int .i64 a, .int .i64 28] = some (.int .i64 17)) : last3_k0_ n a = some (.bool true) := by
  have hr := wrong0_17 n a
  unfold last3_k0_
  rw [evCodeF_eq] at hr ⊢
  rw [← evPre_eq cfg (orcF cfg 399) 3 _ 1 (p3_k0_3 n a).1, at_k0, h, to0_17]
  exact hr
noncomputable def q0_18 (n a : Int) : Code × S := stP (ov noQ 5 (some (.int .i64 18))) 3 1 (p3_k0_3 n a)
theorem to0_18 (n a : Int) (Q : Orc) (N : Code → S → O → Option (AV × O)) (K : Ex → S → O → Option (AV × O)) : evPre cfg (ov Q 5 (some (.int .i64 18))) 3 1 (p3_k0_3 n a).1 (p3_k0_3 n a).2 [] N K = N (q0_18 n a).1 (q0_18 n a).2 [] := by kernel_rfl
theorem wrong0_18 (n a : Int) : closed (evCodeF cfg (orcF cfg 399) 3 (q0_18 n a).1 (q0_18 n a).2 [] (kBody cfg 3 0 Tryz.f3)) = some (.bool true) := by kernel_rfl
theorem case0_18 (n a : Int) (h : (orcF cfg 399).clo 5 [.int .i64 a, .int .i64 28] = some (.int .i64 18)) : last3_k0_ n a = some (.bool true) := by
  have hr := wrong0_18 n a
  unfold last3_k0_
  rw [evCodeF_eq] at hr ⊢
  rw [← evPre_eq cfg (orcF cfg 399) 3 _ 1 (p3_k0_3 n a).1, at_k0, h, to0_18]
  exact hr
noncomputable def q0_19 (n a : Int) : Code × S := stP (ov noQ 5 (some (.int .i64 19))) 3 1 (p3_k0_3 n a)
theorem to0_19 (n a : Int) (Q : Orc) (N : Code → S → O → Option (AV × O)) (K : Ex → S → O → Option (AV × O)) : evPre cfg (ov Q 5 (some (.int .i64 19))) 3 1 (p3_k0_3 n a).1 (p3_k0_3 n a).2 [] N K = N (q0_19 n a).1 (q0_19 n a).2 [] := by kernel_rfl
theorem wrong0_19 (n a : Int) : closed (evCodeF cfg (orcF cfg 399) 3 (q0_19 n a).1 (q0_19 n a).2 [] (kBody cfg 3 0 Tryz.f3)) = some (.bool true) := by kernel_rfl
theorem case0_19 (n a : Int) (h : (orcF cfg 399).clo 5 [.int .i64 a, .int .i64 28] = some (.int .i64 19)) : last3_k0_ n a = some (.bool true) := by
  have hr := wrong0_19 n a
  unfold last3_k0_
  rw [evCodeF_eq] at hr ⊢
  rw [← evPre_eq cfg (orcF cfg 399) 3 _ 1 (p3_k0_3 n a).1, at_k0, h, to0_19]
  exact hr
end Go.Proofs.YtmhemnlcgjebkaaGreatDoor
