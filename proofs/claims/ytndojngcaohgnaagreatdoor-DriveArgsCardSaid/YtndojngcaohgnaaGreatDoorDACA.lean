/- DriveArgs: the first case. -/
import Derived.Test.YtndojngcaohgnaaGreatDoorDAQ
set_option linter.unusedVariables false
set_option linter.unusedSectionVars false
set_option linter.unusedSimpArgs false
set_option linter.unnecessarySimpa false
namespace Go.Proofs.YtndojngcaohgnaaGreatDoor
open Go Go.Ev

noncomputable def q6_6 (a b c : Int) (w : Int → Int) : Code × S := (blkB (sqL (p6_6 a b c w 0).1), (p6_6 a b c w 0).2)
noncomputable def q6_7 (a b c : Int) (w : Int → Int) : Code × S := stP noQ 6 1 (q6_6 a b c w)
noncomputable def q6_8 (a b c : Int) (w : Int → Int) : Code × S := (conA (q6_7 a b c w).1, (q6_7 a b c w).2)
theorem isq6_6 (a b c : Int) (w : Int → Int) : (p6_6 a b c w 0).1 = .seq (.block 0 (.seq (sqL (q6_6 a b c w).1) (sqR (q6_6 a b c w).1))) (sqR (p6_6 a b c w 0).1) := by kernel_rfl
theorem isq6_6s (a b c : Int) (w : Int → Int) : .seq (sqL (q6_6 a b c w).1) (sqR (q6_6 a b c w).1) = (q6_6 a b c w).1 := by kernel_rfl
theorem isq6_7 (a b c : Int) (w : Int → Int) : (q6_7 a b c w).1 = .cond (.tmp 22) (q6_8 a b c w).1 (conB (q6_7 a b c w).1) := by kernel_rfl
theorem seesq6_7 (a b c : Int) (w : Int → Int) : (q6_7 a b c w).2.env 22 = some (.c (.bool true)) := by kernel_rfl
section
variable (Q : Orc) (a b c : Int) (w : Int → Int) (x y z u : UInt8) (N : Code → S → O → Option (AV × O)) (K : Ex → S → O → Option (AV × O))
theorem toq6_7 : evPre cfg Q 6 1 (q6_6 a b c w).1 (q6_6 a b c w).2 [] N K = N (q6_7 a b c w).1 (q6_7 a b c w).2 [] := by kernel_rfl
theorem atq6_9 : evPre cfg Q 6 1 (q6_8 a b c w).1 (q6_8 a b c w).2 [] N K = evPre cfg (ov (ov Q 13 (Q.clo 13 [.str ⟨#[40, 100, 101, 102, 32, 109, 97, 105, 110, 32, 40, 102, 110, 32, 40, 120, 32, 73, 110, 116, 41, 32, 40, 102, 110, 32, 40, 121, 32, 73, 110, 116, 41, 32, 40, 115, 117, 98, 32, 120, 32, 121, 41, 41, 41, 41]⟩, .int .i64 9, .im [.int .i64 (IntKind.i64.wrap (w a - 500)), .int .i64 (IntKind.i64.wrap (w b - 500))]])) 10 (Q.clo 10 [.int .i64 (IntKind.i64.wrap (IntKind.i64.wrap (w a - 500) - IntKind.i64.wrap (w b - 500)))])) 6 1 (q6_8 a b c w).1 (q6_8 a b c w).2 [] N K := by kernel_rfl
end
noncomputable def q6_9_0 (a b c : Int) (w : Int → Int) (x : UInt8) : Code × S := stP (ov (ov noQ 13 (some (.str ⟨#[56, 32, x]⟩))) 10 (some (.str ⟨#[x]⟩))) 6 1 (q6_8 a b c w)
theorem toq6_9_0 (Q : Orc) (a b c : Int) (w : Int → Int) (x : UInt8) (N : Code → S → O → Option (AV × O)) (K : Ex → S → O → Option (AV × O)) : evPre cfg (ov (ov Q 13 (some (.str ⟨#[56, 32, x]⟩))) 10 (some (.str ⟨#[x]⟩))) 6 1 (q6_8 a b c w).1 (q6_8 a b c w).2 [] N K = N (q6_9_0 a b c w x).1 (q6_9_0 a b c w x).2 [] := by kernel_rfl
theorem endq6_9_0 (Q : Orc) (a b c : Int) (w : Int → Int) (x : UInt8) (Z : S → O → Option (AV × O)) : closed (evCode cfg Q 6 (q6_9_0 a b c w x).1 (q6_9_0 a b c w x).2 [] (blkK 0 (seqK Z (kBody cfg 6 0 Tryz.f6)))) = some (.bool ((⟨#[56, 32, x]⟩ : ByteArray).toList == ((⟨#[56, 32]⟩ : ByteArray) ++ (⟨#[x]⟩ : ByteArray)).toList)) := by kernel_rfl
theorem case0_0 {a b c : Int} {w : Int → Int} {x : UInt8} (h24 : (orcF cfg 398).clo 24 [.ag [.int .i64 1, .int .i64 (IntKind.i64.wrap (IntKind.i64.wrap (w a - 500) - IntKind.i64.wrap (w b - 500))), .im []]] = some (.str ⟨#[x]⟩)) (h9 : (orcF cfg 399).clo 10 [.int .i64 (IntKind.i64.wrap (IntKind.i64.wrap (w a - 500) - IntKind.i64.wrap (w b - 500)))] = some (.str ⟨#[x]⟩)) : last6 (orcF cfg 399) a b c w 0 = some (.bool true) := by
  unfold last6
  rw [evCodeF_eq]
  refine (congrArg (fun x => closed (evCode cfg (orcF cfg 399) 6 x (p6_6 a b c w 0).2 [] (kBody cfg 6 0 Tryz.f6))) (isq6_6 a b c w)).trans ?_
  show closed (evCode cfg (orcF cfg 399) 6 (.seq (.block 0 (.seq (sqL (q6_6 a b c w).1) (sqR (q6_6 a b c w).1))) (sqR (p6_6 a b c w 0).1)) (p6_6 a b c w 0).2 [] (kBody cfg 6 0 Tryz.f6)) = _
  rw [evCode_block, isq6_6s]
  generalize hZ : (fun s w_1 => evCode cfg (orcF cfg 399) 6 (sqR (p6_6 a b c w 0).1) s w_1 (kBody cfg 6 0 Tryz.f6)) = Z
  show closed (evCode cfg (orcF cfg 399) 6 (q6_6 a b c w).1 (q6_6 a b c w).2 [] (blkK 0 (seqK Z (kBody cfg 6 0 Tryz.f6)))) = _
  rw [← evPre_eq cfg (orcF cfg 399) 6 _ 1 (q6_6 a b c w).1, toq6_7]
  rw [isq6_7, evCode_true (seesq6_7 a b c w)]
  show closed (evCode cfg (orcF cfg 399) 6 (q6_8 a b c w).1 (q6_8 a b c w).2 [] (blkK 0 (seqK Z (kBody cfg 6 0 Tryz.f6)))) = _
  rw [← evPre_eq cfg (orcF cfg 399) 6 _ 1 (q6_8 a b c w).1, atq6_9, told_0 h24, h9, toq6_9_0, endq6_9_0]
  have e : (⟨#[56, 32, x]⟩ : ByteArray) = (⟨#[56, 32]⟩ : ByteArray) ++ (⟨#[x]⟩ : ByteArray) := by kernel_rfl
  rw [← e, beq_self_eq_true]
noncomputable def q6_9_1 (a b c : Int) (w : Int → Int) (x y : UInt8) : Code × S := stP (ov (ov noQ 13 (some (.str ⟨#[56, 32, x, y]⟩))) 10 (some (.str ⟨#[x, y]⟩))) 6 1 (q6_8 a b c w)
theorem toq6_9_1 (Q : Orc) (a b c : Int) (w : Int → Int) (x y : UInt8) (N : Code → S → O → Option (AV × O)) (K : Ex → S → O → Option (AV × O)) : evPre cfg (ov (ov Q 13 (some (.str ⟨#[56, 32, x, y]⟩))) 10 (some (.str ⟨#[x, y]⟩))) 6 1 (q6_8 a b c w).1 (q6_8 a b c w).2 [] N K = N (q6_9_1 a b c w x y).1 (q6_9_1 a b c w x y).2 [] := by kernel_rfl
theorem endq6_9_1 (Q : Orc) (a b c : Int) (w : Int → Int) (x y : UInt8) (Z : S → O → Option (AV × O)) : closed (evCode cfg Q 6 (q6_9_1 a b c w x y).1 (q6_9_1 a b c w x y).2 [] (blkK 0 (seqK Z (kBody cfg 6 0 Tryz.f6)))) = some (.bool ((⟨#[56, 32, x, y]⟩ : ByteArray).toList == ((⟨#[56, 32]⟩ : ByteArray) ++ (⟨#[x, y]⟩ : ByteArray)).toList)) := by kernel_rfl
theorem case0_1 {a b c : Int} {w : Int → Int} {x y : UInt8} (h24 : (orcF cfg 398).clo 24 [.ag [.int .i64 1, .int .i64 (IntKind.i64.wrap (IntKind.i64.wrap (w a - 500) - IntKind.i64.wrap (w b - 500))), .im []]] = some (.str ⟨#[x, y]⟩)) (h9 : (orcF cfg 399).clo 10 [.int .i64 (IntKind.i64.wrap (IntKind.i64.wrap (w a - 500) - IntKind.i64.wrap (w b - 500)))] = some (.str ⟨#[x, y]⟩)) : last6 (orcF cfg 399) a b c w 0 = some (.bool true) := by
  unfold last6
  rw [evCodeF_eq]
  refine (congrArg (fun x => closed (evCode cfg (orcF cfg 399) 6 x (p6_6 a b c w 0).2 [] (kBody cfg 6 0 Tryz.f6))) (isq6_6 a b c w)).trans ?_
  show closed (evCode cfg (orcF cfg 399) 6 (.seq (.block 0 (.seq (sqL (q6_6 a b c w).1) (sqR (q6_6 a b c w).1))) (sqR (p6_6 a b c w 0).1)) (p6_6 a b c w 0).2 [] (kBody cfg 6 0 Tryz.f6)) = _
  rw [evCode_block, isq6_6s]
  generalize hZ : (fun s w_1 => evCode cfg (orcF cfg 399) 6 (sqR (p6_6 a b c w 0).1) s w_1 (kBody cfg 6 0 Tryz.f6)) = Z
  show closed (evCode cfg (orcF cfg 399) 6 (q6_6 a b c w).1 (q6_6 a b c w).2 [] (blkK 0 (seqK Z (kBody cfg 6 0 Tryz.f6)))) = _
  rw [← evPre_eq cfg (orcF cfg 399) 6 _ 1 (q6_6 a b c w).1, toq6_7]
  rw [isq6_7, evCode_true (seesq6_7 a b c w)]
  show closed (evCode cfg (orcF cfg 399) 6 (q6_8 a b c w).1 (q6_8 a b c w).2 [] (blkK 0 (seqK Z (kBody cfg 6 0 Tryz.f6)))) = _
  rw [← evPre_eq cfg (orcF cfg 399) 6 _ 1 (q6_8 a b c w).1, atq6_9, told_1 h24, h9, toq6_9_1, endq6_9_1]
  have e : (⟨#[56, 32, x, y]⟩ : ByteArray) = (⟨#[56, 32]⟩ : ByteArray) ++ (⟨#[x, y]⟩ : ByteArray) := by kernel_rfl
  rw [← e, beq_self_eq_true]
noncomputable def q6_9_2 (a b c : Int) (w : Int → Int) (x y z : UInt8) : Code × S := stP (ov (ov noQ 13 (some (.str ⟨#[56, 32, x, y, z]⟩))) 10 (some (.str ⟨#[x, y, z]⟩))) 6 1 (q6_8 a b c w)
theorem toq6_9_2 (Q : Orc) (a b c : Int) (w : Int → Int) (x y z : UInt8) (N : Code → S → O → Option (AV × O)) (K : Ex → S → O → Option (AV × O)) : evPre cfg (ov (ov Q 13 (some (.str ⟨#[56, 32, x, y, z]⟩))) 10 (some (.str ⟨#[x, y, z]⟩))) 6 1 (q6_8 a b c w).1 (q6_8 a b c w).2 [] N K = N (q6_9_2 a b c w x y z).1 (q6_9_2 a b c w x y z).2 [] := by kernel_rfl
theorem endq6_9_2 (Q : Orc) (a b c : Int) (w : Int → Int) (x y z : UInt8) (Z : S → O → Option (AV × O)) : closed (evCode cfg Q 6 (q6_9_2 a b c w x y z).1 (q6_9_2 a b c w x y z).2 [] (blkK 0 (seqK Z (kBody cfg 6 0 Tryz.f6)))) = some (.bool ((⟨#[56, 32, x, y, z]⟩ : ByteArray).toList == ((⟨#[56, 32]⟩ : ByteArray) ++ (⟨#[x, y, z]⟩ : ByteArray)).toList)) := by kernel_rfl
theorem case0_2 {a b c : Int} {w : Int → Int} {x y z : UInt8} (h24 : (orcF cfg 398).clo 24 [.ag [.int .i64 1, .int .i64 (IntKind.i64.wrap (IntKind.i64.wrap (w a - 500) - IntKind.i64.wrap (w b - 500))), .im []]] = some (.str ⟨#[x, y, z]⟩)) (h9 : (orcF cfg 399).clo 10 [.int .i64 (IntKind.i64.wrap (IntKind.i64.wrap (w a - 500) - IntKind.i64.wrap (w b - 500)))] = some (.str ⟨#[x, y, z]⟩)) : last6 (orcF cfg 399) a b c w 0 = some (.bool true) := by
  unfold last6
  rw [evCodeF_eq]
  refine (congrArg (fun x => closed (evCode cfg (orcF cfg 399) 6 x (p6_6 a b c w 0).2 [] (kBody cfg 6 0 Tryz.f6))) (isq6_6 a b c w)).trans ?_
  show closed (evCode cfg (orcF cfg 399) 6 (.seq (.block 0 (.seq (sqL (q6_6 a b c w).1) (sqR (q6_6 a b c w).1))) (sqR (p6_6 a b c w 0).1)) (p6_6 a b c w 0).2 [] (kBody cfg 6 0 Tryz.f6)) = _
  rw [evCode_block, isq6_6s]
  generalize hZ : (fun s w_1 => evCode cfg (orcF cfg 399) 6 (sqR (p6_6 a b c w 0).1) s w_1 (kBody cfg 6 0 Tryz.f6)) = Z
  show closed (evCode cfg (orcF cfg 399) 6 (q6_6 a b c w).1 (q6_6 a b c w).2 [] (blkK 0 (seqK Z (kBody cfg 6 0 Tryz.f6)))) = _
  rw [← evPre_eq cfg (orcF cfg 399) 6 _ 1 (q6_6 a b c w).1, toq6_7]
  rw [isq6_7, evCode_true (seesq6_7 a b c w)]
  show closed (evCode cfg (orcF cfg 399) 6 (q6_8 a b c w).1 (q6_8 a b c w).2 [] (blkK 0 (seqK Z (kBody cfg 6 0 Tryz.f6)))) = _
  rw [← evPre_eq cfg (orcF cfg 399) 6 _ 1 (q6_8 a b c w).1, atq6_9, told_2 h24, h9, toq6_9_2, endq6_9_2]
  have e : (⟨#[56, 32, x, y, z]⟩ : ByteArray) = (⟨#[56, 32]⟩ : ByteArray) ++ (⟨#[x, y, z]⟩ : ByteArray) := by kernel_rfl
  rw [← e, beq_self_eq_true]
noncomputable def q6_9_3 (a b c : Int) (w : Int → Int) (x y z u : UInt8) : Code × S := stP (ov (ov noQ 13 (some (.str ⟨#[56, 32, x, y, z, u]⟩))) 10 (some (.str ⟨#[x, y, z, u]⟩))) 6 1 (q6_8 a b c w)
theorem toq6_9_3 (Q : Orc) (a b c : Int) (w : Int → Int) (x y z u : UInt8) (N : Code → S → O → Option (AV × O)) (K : Ex → S → O → Option (AV × O)) : evPre cfg (ov (ov Q 13 (some (.str ⟨#[56, 32, x, y, z, u]⟩))) 10 (some (.str ⟨#[x, y, z, u]⟩))) 6 1 (q6_8 a b c w).1 (q6_8 a b c w).2 [] N K = N (q6_9_3 a b c w x y z u).1 (q6_9_3 a b c w x y z u).2 [] := by kernel_rfl
theorem endq6_9_3 (Q : Orc) (a b c : Int) (w : Int → Int) (x y z u : UInt8) (Z : S → O → Option (AV × O)) : closed (evCode cfg Q 6 (q6_9_3 a b c w x y z u).1 (q6_9_3 a b c w x y z u).2 [] (blkK 0 (seqK Z (kBody cfg 6 0 Tryz.f6)))) = some (.bool ((⟨#[56, 32, x, y, z, u]⟩ : ByteArray).toList == ((⟨#[56, 32]⟩ : ByteArray) ++ (⟨#[x, y, z, u]⟩ : ByteArray)).toList)) := by kernel_rfl
theorem case0_3 {a b c : Int} {w : Int → Int} {x y z u : UInt8} (h24 : (orcF cfg 398).clo 24 [.ag [.int .i64 1, .int .i64 (IntKind.i64.wrap (IntKind.i64.wrap (w a - 500) - IntKind.i64.wrap (w b - 500))), .im []]] = some (.str ⟨#[x, y, z, u]⟩)) (h9 : (orcF cfg 399).clo 10 [.int .i64 (IntKind.i64.wrap (IntKind.i64.wrap (w a - 500) - IntKind.i64.wrap (w b - 500)))] = some (.str ⟨#[x, y, z, u]⟩)) : last6 (orcF cfg 399) a b c w 0 = some (.bool true) := by
  unfold last6
  rw [evCodeF_eq]
  refine (congrArg (fun x => closed (evCode cfg (orcF cfg 399) 6 x (p6_6 a b c w 0).2 [] (kBody cfg 6 0 Tryz.f6))) (isq6_6 a b c w)).trans ?_
  show closed (evCode cfg (orcF cfg 399) 6 (.seq (.block 0 (.seq (sqL (q6_6 a b c w).1) (sqR (q6_6 a b c w).1))) (sqR (p6_6 a b c w 0).1)) (p6_6 a b c w 0).2 [] (kBody cfg 6 0 Tryz.f6)) = _
  rw [evCode_block, isq6_6s]
  generalize hZ : (fun s w_1 => evCode cfg (orcF cfg 399) 6 (sqR (p6_6 a b c w 0).1) s w_1 (kBody cfg 6 0 Tryz.f6)) = Z
  show closed (evCode cfg (orcF cfg 399) 6 (q6_6 a b c w).1 (q6_6 a b c w).2 [] (blkK 0 (seqK Z (kBody cfg 6 0 Tryz.f6)))) = _
  rw [← evPre_eq cfg (orcF cfg 399) 6 _ 1 (q6_6 a b c w).1, toq6_7]
  rw [isq6_7, evCode_true (seesq6_7 a b c w)]
  show closed (evCode cfg (orcF cfg 399) 6 (q6_8 a b c w).1 (q6_8 a b c w).2 [] (blkK 0 (seqK Z (kBody cfg 6 0 Tryz.f6)))) = _
  rw [← evPre_eq cfg (orcF cfg 399) 6 _ 1 (q6_8 a b c w).1, atq6_9, told_3 h24, h9, toq6_9_3, endq6_9_3]
  have e : (⟨#[56, 32, x, y, z, u]⟩ : ByteArray) = (⟨#[56, 32]⟩ : ByteArray) ++ (⟨#[x, y, z, u]⟩ : ByteArray) := by kernel_rfl
  rw [← e, beq_self_eq_true]
theorem case0 (a b c : Int) (w : Int → Int) (hw : ∀ m, 0 ≤ w m ∧ w m < 1000) : last6 (orcF cfg 399) a b c w 0 = some (.bool true) := by
  have ha := hw a
  have hb := hw b
  have e : IntKind.i64.wrap (IntKind.i64.wrap (w a - 500) - IntKind.i64.wrap (w b - 500)) = w a - w b := by
    rw [wrap_small (x := w a - 500) (by omega) (by omega), wrap_small (x := w b - 500) (by omega) (by omega), wrap_small (by omega) (by omega)]
    omega
  have h24 : (orcF cfg 398).clo 24 [.ag [.int .i64 1, .int .i64 (IntKind.i64.wrap (IntKind.i64.wrap (w a - 500) - IntKind.i64.wrap (w b - 500))), .im []]] = some (.str ⟨(digZ (w a - w b)).toArray⟩) := by rw [e]; exact text 389 (by omega) (by omega)
  have h9 : (orcF cfg 399).clo 10 [.int .i64 (IntKind.i64.wrap (IntKind.i64.wrap (w a - 500) - IntKind.i64.wrap (w b - 500)))] = some (.str ⟨(digZ (w a - w b)).toArray⟩) := by rw [e]; exact digits 391 (by omega) (by omega)
  rcases digZ_shape (w a - w b) with ⟨x, hx⟩ | ⟨x, y, hx⟩ | ⟨x, y, z, hx⟩ | ⟨x, y, z, u, hx⟩ <;> rw [hx] at h24 h9
  · exact case0_0 h24 h9
  · exact case0_1 h24 h9
  · exact case0_2 h24 h9
  · exact case0_3 h24 h9
end Go.Proofs.YtndojngcaohgnaaGreatDoor
