/- ElabNames: the function, for every two numbers. -/
import Derived.Test.YtgmgdijphklogaaGreatDoorUN0A
import Derived.Test.YtgmgdijphklogaaGreatDoorUN1A
import Derived.Test.YtgmgdijphklogaaGreatDoorUN2A
import Derived.Test.YtgmgdijphklogaaGreatDoorUN3A
import Derived.Test.YtgmgdijphklogaaGreatDoorUN3B
import Derived.Test.YtgmgdijphklogaaGreatDoorUN4A
import Derived.Test.YtgmgdijphklogaaGreatDoorUN4B
import Derived.Test.YtgmgdijphklogaaGreatDoorUN4C
import Derived.Test.YtgmgdijphklogaaGreatDoorUN5A
import Derived.Test.YtgmgdijphklogaaGreatDoorUN5B
import Derived.Test.YtgmgdijphklogaaGreatDoorUN5C
import Derived.Test.YtgmgdijphklogaaGreatDoorUN6A
import Derived.Test.YtgmgdijphklogaaGreatDoorUN6B
import Derived.Test.YtgmgdijphklogaaGreatDoorUN6C
import Derived.Test.YtgmgdijphklogaaGreatDoorUN6D
import Derived.Test.YtgmgdijphklogaaGreatDoorUN7A
import Derived.Test.YtgmgdijphklogaaGreatDoorUN7B
import Derived.Test.YtgmgdijphklogaaGreatDoorUN7C
import Derived.Test.YtgmgdijphklogaaGreatDoorUN7D
set_option linter.unusedVariables false
set_option linter.unusedSectionVars false
set_option linter.unusedSimpArgs false
set_option linter.unnecessarySimpa false
namespace Go.Proofs.YtgmgdijphklogaaGreatDoor
open Go Go.Ev
theorem all6_0 (n m : Int) : ∀ i : Fin 1, last6 n m 0 (i.val : Int) = some (.bool true) := fun i => match i with
  | ⟨0, _⟩ => names0_0 n m
  | ⟨i + 1, h⟩ => absurd h (by omega)
theorem case6_0 (n m : Int) (h8 : (orcF cfg 399).clo 16 [.int .i64 n, .int .i64 8] = some (.int .i64 0)) : closed (evCodeF cfg (orcF cfg 399) 6 (p6_2 n m).1 (p6_2 n m).2 [] (kBody cfg 6 0 Tryz.f6)) = some (.bool true) := by
  obtain ⟨i, hi⟩ := within16 m 1 (by omega) (by omega) (by kernel_rfl) (by kernel_rfl)
  have h := all6_0 n m i
  unfold last6 at h
  rw [evCodeF_eq] at h ⊢
  rw [← evPre_eq cfg _ 6 _ 1 (p6_2 n m).1, at6_3, h8, to6_3_0]
  rw [← evPre_eq cfg _ 6 _ 1 (p6_3 n m 0).1, at6_4_0]
  refine Eq.trans (congrArg (fun x => closed (evPre cfg (ov (orcF cfg 399) 16 x) 6 1 (p6_3 n m 0).1 (p6_3 n m 0).2 [] (fun c s w => evCode cfg (orcF cfg 399) 6 c s w (kBody cfg 6 0 Tryz.f6)) (kBody cfg 6 0 Tryz.f6))) hi) ?_
  rw [to6_4_0]
  exact h
theorem all6_1 (n m : Int) : ∀ i : Fin 2, last6 n m 1 (i.val : Int) = some (.bool true) := fun i => match i with
  | ⟨0, _⟩ => names1_0 n m
  | ⟨1, _⟩ => names1_1 n m
  | ⟨i + 2, h⟩ => absurd h (by omega)
theorem case6_1 (n m : Int) (h8 : (orcF cfg 399).clo 16 [.int .i64 n, .int .i64 8] = some (.int .i64 1)) : closed (evCodeF cfg (orcF cfg 399) 6 (p6_2 n m).1 (p6_2 n m).2 [] (kBody cfg 6 0 Tryz.f6)) = some (.bool true) := by
  obtain ⟨i, hi⟩ := within16 m 2 (by omega) (by omega) (by kernel_rfl) (by kernel_rfl)
  have h := all6_1 n m i
  unfold last6 at h
  rw [evCodeF_eq] at h ⊢
  rw [← evPre_eq cfg _ 6 _ 1 (p6_2 n m).1, at6_3, h8, to6_3_1]
  rw [← evPre_eq cfg _ 6 _ 1 (p6_3 n m 1).1, at6_4_1]
  refine Eq.trans (congrArg (fun x => closed (evPre cfg (ov (orcF cfg 399) 16 x) 6 1 (p6_3 n m 1).1 (p6_3 n m 1).2 [] (fun c s w => evCode cfg (orcF cfg 399) 6 c s w (kBody cfg 6 0 Tryz.f6)) (kBody cfg 6 0 Tryz.f6))) hi) ?_
  rw [to6_4_1]
  exact h
theorem all6_2 (n m : Int) : ∀ i : Fin 3, last6 n m 2 (i.val : Int) = some (.bool true) := fun i => match i with
  | ⟨0, _⟩ => names2_0 n m
  | ⟨1, _⟩ => names2_1 n m
  | ⟨2, _⟩ => names2_2 n m
  | ⟨i + 3, h⟩ => absurd h (by omega)
theorem case6_2 (n m : Int) (h8 : (orcF cfg 399).clo 16 [.int .i64 n, .int .i64 8] = some (.int .i64 2)) : closed (evCodeF cfg (orcF cfg 399) 6 (p6_2 n m).1 (p6_2 n m).2 [] (kBody cfg 6 0 Tryz.f6)) = some (.bool true) := by
  obtain ⟨i, hi⟩ := within16 m 3 (by omega) (by omega) (by kernel_rfl) (by kernel_rfl)
  have h := all6_2 n m i
  unfold last6 at h
  rw [evCodeF_eq] at h ⊢
  rw [← evPre_eq cfg _ 6 _ 1 (p6_2 n m).1, at6_3, h8, to6_3_2]
  rw [← evPre_eq cfg _ 6 _ 1 (p6_3 n m 2).1, at6_4_2]
  refine Eq.trans (congrArg (fun x => closed (evPre cfg (ov (orcF cfg 399) 16 x) 6 1 (p6_3 n m 2).1 (p6_3 n m 2).2 [] (fun c s w => evCode cfg (orcF cfg 399) 6 c s w (kBody cfg 6 0 Tryz.f6)) (kBody cfg 6 0 Tryz.f6))) hi) ?_
  rw [to6_4_2]
  exact h
theorem all6_3 (n m : Int) : ∀ i : Fin 4, last6 n m 3 (i.val : Int) = some (.bool true) := fun i => match i with
  | ⟨0, _⟩ => names3_0 n m
  | ⟨1, _⟩ => names3_1 n m
  | ⟨2, _⟩ => names3_2 n m
  | ⟨3, _⟩ => names3_3 n m
  | ⟨i + 4, h⟩ => absurd h (by omega)
theorem case6_3 (n m : Int) (h8 : (orcF cfg 399).clo 16 [.int .i64 n, .int .i64 8] = some (.int .i64 3)) : closed (evCodeF cfg (orcF cfg 399) 6 (p6_2 n m).1 (p6_2 n m).2 [] (kBody cfg 6 0 Tryz.f6)) = some (.bool true) := by
  obtain ⟨i, hi⟩ := within16 m 4 (by omega) (by omega) (by kernel_rfl) (by kernel_rfl)
  have h := all6_3 n m i
  unfold last6 at h
  rw [evCodeF_eq] at h ⊢
  rw [← evPre_eq cfg _ 6 _ 1 (p6_2 n m).1, at6_3, h8, to6_3_3]
  rw [← evPre_eq cfg _ 6 _ 1 (p6_3 n m 3).1, at6_4_3]
  refine Eq.trans (congrArg (fun x => closed (evPre cfg (ov (orcF cfg 399) 16 x) 6 1 (p6_3 n m 3).1 (p6_3 n m 3).2 [] (fun c s w => evCode cfg (orcF cfg 399) 6 c s w (kBody cfg 6 0 Tryz.f6)) (kBody cfg 6 0 Tryz.f6))) hi) ?_
  rw [to6_4_3]
  exact h
theorem all6_4 (n m : Int) : ∀ i : Fin 5, last6 n m 4 (i.val : Int) = some (.bool true) := fun i => match i with
  | ⟨0, _⟩ => names4_0 n m
  | ⟨1, _⟩ => names4_1 n m
  | ⟨2, _⟩ => names4_2 n m
  | ⟨3, _⟩ => names4_3 n m
  | ⟨4, _⟩ => names4_4 n m
  | ⟨i + 5, h⟩ => absurd h (by omega)
theorem case6_4 (n m : Int) (h8 : (orcF cfg 399).clo 16 [.int .i64 n, .int .i64 8] = some (.int .i64 4)) : closed (evCodeF cfg (orcF cfg 399) 6 (p6_2 n m).1 (p6_2 n m).2 [] (kBody cfg 6 0 Tryz.f6)) = some (.bool true) := by
  obtain ⟨i, hi⟩ := within16 m 5 (by omega) (by omega) (by kernel_rfl) (by kernel_rfl)
  have h := all6_4 n m i
  unfold last6 at h
  rw [evCodeF_eq] at h ⊢
  rw [← evPre_eq cfg _ 6 _ 1 (p6_2 n m).1, at6_3, h8, to6_3_4]
  rw [← evPre_eq cfg _ 6 _ 1 (p6_3 n m 4).1, at6_4_4]
  refine Eq.trans (congrArg (fun x => closed (evPre cfg (ov (orcF cfg 399) 16 x) 6 1 (p6_3 n m 4).1 (p6_3 n m 4).2 [] (fun c s w => evCode cfg (orcF cfg 399) 6 c s w (kBody cfg 6 0 Tryz.f6)) (kBody cfg 6 0 Tryz.f6))) hi) ?_
  rw [to6_4_4]
  exact h
theorem all6_5 (n m : Int) : ∀ i : Fin 6, last6 n m 5 (i.val : Int) = some (.bool true) := fun i => match i with
  | ⟨0, _⟩ => names5_0 n m
  | ⟨1, _⟩ => names5_1 n m
  | ⟨2, _⟩ => names5_2 n m
  | ⟨3, _⟩ => names5_3 n m
  | ⟨4, _⟩ => names5_4 n m
  | ⟨5, _⟩ => names5_5 n m
  | ⟨i + 6, h⟩ => absurd h (by omega)
theorem case6_5 (n m : Int) (h8 : (orcF cfg 399).clo 16 [.int .i64 n, .int .i64 8] = some (.int .i64 5)) : closed (evCodeF cfg (orcF cfg 399) 6 (p6_2 n m).1 (p6_2 n m).2 [] (kBody cfg 6 0 Tryz.f6)) = some (.bool true) := by
  obtain ⟨i, hi⟩ := within16 m 6 (by omega) (by omega) (by kernel_rfl) (by kernel_rfl)
  have h := all6_5 n m i
  unfold last6 at h
  rw [evCodeF_eq] at h ⊢
  rw [← evPre_eq cfg _ 6 _ 1 (p6_2 n m).1, at6_3, h8, to6_3_5]
  rw [← evPre_eq cfg _ 6 _ 1 (p6_3 n m 5).1, at6_4_5]
  refine Eq.trans (congrArg (fun x => closed (evPre cfg (ov (orcF cfg 399) 16 x) 6 1 (p6_3 n m 5).1 (p6_3 n m 5).2 [] (fun c s w => evCode cfg (orcF cfg 399) 6 c s w (kBody cfg 6 0 Tryz.f6)) (kBody cfg 6 0 Tryz.f6))) hi) ?_
  rw [to6_4_5]
  exact h
theorem all6_6 (n m : Int) : ∀ i : Fin 7, last6 n m 6 (i.val : Int) = some (.bool true) := fun i => match i with
  | ⟨0, _⟩ => names6_0 n m
  | ⟨1, _⟩ => names6_1 n m
  | ⟨2, _⟩ => names6_2 n m
  | ⟨3, _⟩ => names6_3 n m
  | ⟨4, _⟩ => names6_4 n m
  | ⟨5, _⟩ => names6_5 n m
  | ⟨6, _⟩ => names6_6 n m
  | ⟨i + 7, h⟩ => absurd h (by omega)
theorem case6_6 (n m : Int) (h8 : (orcF cfg 399).clo 16 [.int .i64 n, .int .i64 8] = some (.int .i64 6)) : closed (evCodeF cfg (orcF cfg 399) 6 (p6_2 n m).1 (p6_2 n m).2 [] (kBody cfg 6 0 Tryz.f6)) = some (.bool true) := by
  obtain ⟨i, hi⟩ := within16 m 7 (by omega) (by omega) (by kernel_rfl) (by kernel_rfl)
  have h := all6_6 n m i
  unfold last6 at h
  rw [evCodeF_eq] at h ⊢
  rw [← evPre_eq cfg _ 6 _ 1 (p6_2 n m).1, at6_3, h8, to6_3_6]
  rw [← evPre_eq cfg _ 6 _ 1 (p6_3 n m 6).1, at6_4_6]
  refine Eq.trans (congrArg (fun x => closed (evPre cfg (ov (orcF cfg 399) 16 x) 6 1 (p6_3 n m 6).1 (p6_3 n m 6).2 [] (fun c s w => evCode cfg (orcF cfg 399) 6 c s w (kBody cfg 6 0 Tryz.f6)) (kBody cfg 6 0 Tryz.f6))) hi) ?_
  rw [to6_4_6]
  exact h
theorem all6_7 (n m : Int) : ∀ i : Fin 8, last6 n m 7 (i.val : Int) = some (.bool true) := fun i => match i with
  | ⟨0, _⟩ => names7_0 n m
  | ⟨1, _⟩ => names7_1 n m
  | ⟨2, _⟩ => names7_2 n m
  | ⟨3, _⟩ => names7_3 n m
  | ⟨4, _⟩ => names7_4 n m
  | ⟨5, _⟩ => names7_5 n m
  | ⟨6, _⟩ => names7_6 n m
  | ⟨7, _⟩ => names7_7 n m
  | ⟨i + 8, h⟩ => absurd h (by omega)
theorem case6_7 (n m : Int) (h8 : (orcF cfg 399).clo 16 [.int .i64 n, .int .i64 8] = some (.int .i64 7)) : closed (evCodeF cfg (orcF cfg 399) 6 (p6_2 n m).1 (p6_2 n m).2 [] (kBody cfg 6 0 Tryz.f6)) = some (.bool true) := by
  obtain ⟨i, hi⟩ := within16 m 8 (by omega) (by omega) (by kernel_rfl) (by kernel_rfl)
  have h := all6_7 n m i
  unfold last6 at h
  rw [evCodeF_eq] at h ⊢
  rw [← evPre_eq cfg _ 6 _ 1 (p6_2 n m).1, at6_3, h8, to6_3_7]
  rw [← evPre_eq cfg _ 6 _ 1 (p6_3 n m 7).1, at6_4_7]
  refine Eq.trans (congrArg (fun x => closed (evPre cfg (ov (orcF cfg 399) 16 x) 6 1 (p6_3 n m 7).1 (p6_3 n m 7).2 [] (fun c s w => evCode cfg (orcF cfg 399) 6 c s w (kBody cfg 6 0 Tryz.f6)) (kBody cfg 6 0 Tryz.f6))) hi) ?_
  rw [to6_4_7]
  exact h
theorem fn6 : cfg.fn 6 = some Tryz.f6 := by kernel_rfl
theorem b6 : Tryz.f6.body = some body6 := by kernel_rfl
theorem cases6 (n m : Int) : ∀ j : Fin 8, (orcF cfg 399).clo 16 [.int .i64 n, .int .i64 8] = some (.int .i64 (j.val : Int)) → closed (evCodeF cfg (orcF cfg 399) 6 (p6_2 n m).1 (p6_2 n m).2 [] (kBody cfg 6 0 Tryz.f6)) = some (.bool true) := fun j => match j with
  | ⟨0, _⟩ => case6_0 n m
  | ⟨1, _⟩ => case6_1 n m
  | ⟨2, _⟩ => case6_2 n m
  | ⟨3, _⟩ => case6_3 n m
  | ⟨4, _⟩ => case6_4 n m
  | ⟨5, _⟩ => case6_5 n m
  | ⟨6, _⟩ => case6_6 n m
  | ⟨7, _⟩ => case6_7 n m
  | ⟨j + 8, h⟩ => absurd h (by omega)
theorem clo6 (n m : Int) : CloC Tryz.prog 6 [.int .i64 n, .int .i64 m] (.bool true) := by
  obtain ⟨j, hj⟩ := within16 n 8 (by omega) (by omega) (by kernel_rfl) (by kernel_rfl)
  refine clo1 (n := 400) (clo_of (by kernel_rfl) (by kernel_rfl) ?_)
  rw [body_pre fn6 b6 0]
  refine Eq.trans (congrArg closed (?_ : _ = evCodeF cfg (orcF cfg 399) 6 (p6_2 n m).1 (p6_2 n m).2 [] (kBody cfg 6 0 Tryz.f6))) (cases6 n m j hj)
  show evCodeF cfg (orcF cfg 399) 6 (p6_0 n m).1 (p6_0 n m).2 [] (kBody cfg 6 0 Tryz.f6) = _
  rw [evCodeF_eq, evCodeF_eq]
  rw [← evPre_eq cfg _ 6 _ 2 (p6_0 n m).1, at6_2, known15, to6_2]
end Go.Proofs.YtgmgdijphklogaaGreatDoor
