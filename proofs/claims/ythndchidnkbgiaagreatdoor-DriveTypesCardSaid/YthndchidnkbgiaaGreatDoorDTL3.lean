/- DriveTypes: 3 numbers. -/
import Derived.Test.YthndchidnkbgiaaGreatDoorDTL0
import Derived.Test.YthndchidnkbgiaaGreatDoorDTK3
set_option linter.unusedVariables false
set_option linter.unusedSectionVars false
set_option linter.unusedSimpArgs false
set_option linter.unnecessarySimpa false
namespace Go.Proofs.YthndchidnkbgiaaGreatDoor.W
open Go Go.Ev Go.Proofs.YthndchidnkbgiaaGreatDoor
noncomputable def qL3_0 (w : Int → Int) (n : Int) : Code × S := stP w (orcF (cfg w) 399) 3 4 (p3 w n ([]) 3)
theorem toL3_0 (w : Int → Int) (n : Int) (N : Code → S → O → Option (AV × O)) (K : Ex → S → O → Option (AV × O)) : evPre (cfg w) (orcF (cfg w) 399) 3 4 (p3 w n ([]) 3).1 (p3 w n ([]) 3).2 [] N K = N (qL3_0 w n).1 (qL3_0 w n).2 [] := by kernel_rfl
theorem atL3_0 (Q : Orc) (w : Int → Int) (n : Int) (N : Code → S → O → Option (AV × O)) (K : Ex → S → O → Option (AV × O)) : evPre (cfg w) Q 3 1 (qL3_0 w n).1 (qL3_0 w n).2 [] N K = evPre (cfg w) (ov (ov Q 7 (Q.clo 7 [.str ⟨#[40, 100, 101, 102, 32, 102, 117, 110, 32, 40, 45, 62, 32, 78, 97, 116, 32, 84, 121, 41, 32, 40, 102, 110, 32, 110, 32, 40, 114, 101, 99, 32, 40, 107, 32, 84, 121, 41, 32, 73, 110, 116, 32, 40, 105, 32, 104, 32, 40, 45, 62, 32, 73, 110, 116, 32, 104, 41, 41, 32, 110, 41, 41, 41, 10, 40, 100, 101, 102, 32, 115, 117, 109, 32, 40, 112, 105, 32, 40, 110, 32, 78, 97, 116, 41, 32, 40, 45, 62, 32, 40, 108, 105, 102, 116, 32, 73, 110, 116, 41, 32, 40, 108, 105, 102, 116, 32, 40, 102, 117, 110, 32, 110, 41, 41, 41, 41, 32, 40, 102, 110, 32, 110, 32, 40, 114, 101, 99, 32, 40, 107, 32, 40, 45, 62, 32, 40, 108, 105, 102, 116, 32, 73, 110, 116, 41, 32, 40, 108, 105, 102, 116, 32, 40, 102, 117, 110, 32, 107, 41, 41, 41, 41, 32, 40, 102, 110, 32, 97, 32, 97, 41, 32, 40, 105, 32, 104, 32, 40, 102, 110, 32, 97, 32, 40, 102, 110, 32, 120, 32, 40, 104, 32, 40, 97, 100, 100, 32, 97, 32, 120, 41, 41, 41, 41, 41, 32, 110, 41, 41, 41, 10, 40, 100, 101, 102, 32, 109, 97, 105, 110, 32, 40, 115, 117, 109, 32, 51, 32, 48, 41, 41]⟩, .int .i64 20, .im [.int .i64 ((0 : Int)), .int .i64 ((1 : Int)), .int .i64 ((2 : Int))]])) 6 (Q.clo 6 [.int .i64 (IntKind.i64.wrap ((IntKind.i64.wrap ((IntKind.i64.wrap (0 + ((0 : Int)))) + ((1 : Int)))) + ((2 : Int))))])) 3 1 (qL3_0 w n).1 (qL3_0 w n).2 [] N K := by kernel_rfl
noncomputable def qL3_0_0 (w : Int → Int) (n : Int) (x : UInt8) : Code × S := stP w (ov (ov noQ 7 (some (.str ⟨#[56, 32, x]⟩))) 6 (some (.str ⟨#[x]⟩))) 3 1 (qL3_0 w n)
theorem toL3_0_0 (Q : Orc) (w : Int → Int) (n : Int) (x : UInt8) (N : Code → S → O → Option (AV × O)) (K : Ex → S → O → Option (AV × O)) : evPre (cfg w) (ov (ov Q 7 (some (.str ⟨#[56, 32, x]⟩))) 6 (some (.str ⟨#[x]⟩))) 3 1 (qL3_0 w n).1 (qL3_0 w n).2 [] N K = N (qL3_0_0 w n x).1 (qL3_0_0 w n x).2 [] := by kernel_rfl
theorem endL3_0_0 (w : Int → Int) (n : Int) (x : UInt8) : closed (evCode (cfg w) (orcF (cfg w) 399) 3 (qL3_0_0 w n x).1 (qL3_0_0 w n x).2 [] (kBody (cfg w) 3 0 Tryz.f3)) = some (.bool ((⟨#[56, 32, x]⟩ : ByteArray).data.toList == (catS ⟨#[56, 32]⟩ (⟨#[x]⟩ : ByteArray)).data.toList)) := by kernel_rfl
noncomputable def qL3_0_1 (w : Int → Int) (n : Int) (x y : UInt8) : Code × S := stP w (ov (ov noQ 7 (some (.str ⟨#[56, 32, x, y]⟩))) 6 (some (.str ⟨#[x, y]⟩))) 3 1 (qL3_0 w n)
theorem toL3_0_1 (Q : Orc) (w : Int → Int) (n : Int) (x y : UInt8) (N : Code → S → O → Option (AV × O)) (K : Ex → S → O → Option (AV × O)) : evPre (cfg w) (ov (ov Q 7 (some (.str ⟨#[56, 32, x, y]⟩))) 6 (some (.str ⟨#[x, y]⟩))) 3 1 (qL3_0 w n).1 (qL3_0 w n).2 [] N K = N (qL3_0_1 w n x y).1 (qL3_0_1 w n x y).2 [] := by kernel_rfl
theorem endL3_0_1 (w : Int → Int) (n : Int) (x y : UInt8) : closed (evCode (cfg w) (orcF (cfg w) 399) 3 (qL3_0_1 w n x y).1 (qL3_0_1 w n x y).2 [] (kBody (cfg w) 3 0 Tryz.f3)) = some (.bool ((⟨#[56, 32, x, y]⟩ : ByteArray).data.toList == (catS ⟨#[56, 32]⟩ (⟨#[x, y]⟩ : ByteArray)).data.toList)) := by kernel_rfl
noncomputable def qL3_0_2 (w : Int → Int) (n : Int) (x y z : UInt8) : Code × S := stP w (ov (ov noQ 7 (some (.str ⟨#[56, 32, x, y, z]⟩))) 6 (some (.str ⟨#[x, y, z]⟩))) 3 1 (qL3_0 w n)
theorem toL3_0_2 (Q : Orc) (w : Int → Int) (n : Int) (x y z : UInt8) (N : Code → S → O → Option (AV × O)) (K : Ex → S → O → Option (AV × O)) : evPre (cfg w) (ov (ov Q 7 (some (.str ⟨#[56, 32, x, y, z]⟩))) 6 (some (.str ⟨#[x, y, z]⟩))) 3 1 (qL3_0 w n).1 (qL3_0 w n).2 [] N K = N (qL3_0_2 w n x y z).1 (qL3_0_2 w n x y z).2 [] := by kernel_rfl
theorem endL3_0_2 (w : Int → Int) (n : Int) (x y z : UInt8) : closed (evCode (cfg w) (orcF (cfg w) 399) 3 (qL3_0_2 w n x y z).1 (qL3_0_2 w n x y z).2 [] (kBody (cfg w) 3 0 Tryz.f3)) = some (.bool ((⟨#[56, 32, x, y, z]⟩ : ByteArray).data.toList == (catS ⟨#[56, 32]⟩ (⟨#[x, y, z]⟩ : ByteArray)).data.toList)) := by kernel_rfl
noncomputable def qL3_0_3 (w : Int → Int) (n : Int) (x y z u : UInt8) : Code × S := stP w (ov (ov noQ 7 (some (.str ⟨#[56, 32, x, y, z, u]⟩))) 6 (some (.str ⟨#[x, y, z, u]⟩))) 3 1 (qL3_0 w n)
theorem toL3_0_3 (Q : Orc) (w : Int → Int) (n : Int) (x y z u : UInt8) (N : Code → S → O → Option (AV × O)) (K : Ex → S → O → Option (AV × O)) : evPre (cfg w) (ov (ov Q 7 (some (.str ⟨#[56, 32, x, y, z, u]⟩))) 6 (some (.str ⟨#[x, y, z, u]⟩))) 3 1 (qL3_0 w n).1 (qL3_0 w n).2 [] N K = N (qL3_0_3 w n x y z u).1 (qL3_0_3 w n x y z u).2 [] := by kernel_rfl
theorem endL3_0_3 (w : Int → Int) (n : Int) (x y z u : UInt8) : closed (evCode (cfg w) (orcF (cfg w) 399) 3 (qL3_0_3 w n x y z u).1 (qL3_0_3 w n x y z u).2 [] (kBody (cfg w) 3 0 Tryz.f3)) = some (.bool ((⟨#[56, 32, x, y, z, u]⟩ : ByteArray).data.toList == (catS ⟨#[56, 32]⟩ (⟨#[x, y, z, u]⟩ : ByteArray)).data.toList)) := by kernel_rfl
theorem caseL3_0 (w : Int → Int) (n : Int) (hw : ∀ m, 0 ≤ w m ∧ w m < 1000) : last w n ([]) 3 = some (.bool true) := by
  unfold last
  rw [evCodeF_eq]
  rw [← evPre_eq (cfg w) (orcF (cfg w) 399) 3 _ 4 (p3 w n ([]) 3).1, toL3_0]
  rw [← evPre_eq (cfg w) (orcF (cfg w) 399) 3 _ 1 (qL3_0 w n).1]
  have e : IntKind.i64.wrap ((IntKind.i64.wrap ((IntKind.i64.wrap (0 + ((0 : Int)))) + ((1 : Int)))) + ((2 : Int))) = ((0 : Int)) + ((1 : Int)) + ((2 : Int)) ∧ 0 ≤ ((0 : Int)) + ((1 : Int)) + ((2 : Int)) ∧ ((0 : Int)) + ((1 : Int)) + ((2 : Int)) < 5000 := by
    have s1 : IntKind.i64.wrap (0 + ((0 : Int))) = ((0 : Int)) := by
      rw [Int.zero_add]; exact wrap_small (by omega) (by omega)
    have s2 : IntKind.i64.wrap ((IntKind.i64.wrap (0 + ((0 : Int)))) + ((1 : Int))) = ((0 : Int)) + ((1 : Int)) := by
      rw [s1]; exact wrap_small (by omega) (by omega)
    have s3 : IntKind.i64.wrap ((IntKind.i64.wrap ((IntKind.i64.wrap (0 + ((0 : Int)))) + ((1 : Int)))) + ((2 : Int))) = ((0 : Int)) + ((1 : Int)) + ((2 : Int)) := by
      rw [s2]; exact wrap_small (by omega) (by omega)
    exact ⟨s3, by omega, by omega⟩
  have h24 : (orcF (cfg w) 398).clo 10 [.ag [.int .i64 1, .int .i64 (IntKind.i64.wrap ((IntKind.i64.wrap ((IntKind.i64.wrap (0 + ((0 : Int)))) + ((1 : Int)))) + ((2 : Int)))), .im []]] = some (.str ⟨(digZ (((0 : Int)) + ((1 : Int)) + ((2 : Int)))).toArray⟩) := by rw [e.1]; exact text w 388 e.2.1 e.2.2
  have h9 : (orcF (cfg w) 399).clo 6 [.int .i64 (IntKind.i64.wrap ((IntKind.i64.wrap ((IntKind.i64.wrap (0 + ((0 : Int)))) + ((1 : Int)))) + ((2 : Int))))] = some (.str ⟨(digZ (((0 : Int)) + ((1 : Int)) + ((2 : Int)))).toArray⟩) := by rw [e.1]; exact digits w 390 e.2.1 e.2.2
  rcases digZ_shape e.2.1 with ⟨x, hx⟩ | ⟨x, y, hx⟩ | ⟨x, y, z, hx⟩ | ⟨x, y, z, u, hx⟩ <;> rw [hx] at h24 h9
  · rw [atL3_0, told3_0 h24, h9, toL3_0_0, endL3_0_0]
    have e : (⟨#[56, 32, x]⟩ : ByteArray) = catS ⟨#[56, 32]⟩ (⟨#[x]⟩ : ByteArray) := by kernel_rfl
    rw [← e, beq_self_eq_true]
  · rw [atL3_0, told3_1 h24, h9, toL3_0_1, endL3_0_1]
    have e : (⟨#[56, 32, x, y]⟩ : ByteArray) = catS ⟨#[56, 32]⟩ (⟨#[x, y]⟩ : ByteArray) := by kernel_rfl
    rw [← e, beq_self_eq_true]
  · rw [atL3_0, told3_2 h24, h9, toL3_0_2, endL3_0_2]
    have e : (⟨#[56, 32, x, y, z]⟩ : ByteArray) = catS ⟨#[56, 32]⟩ (⟨#[x, y, z]⟩ : ByteArray) := by kernel_rfl
    rw [← e, beq_self_eq_true]
  · rw [atL3_0, told3_3 h24, h9, toL3_0_3, endL3_0_3]
    have e : (⟨#[56, 32, x, y, z, u]⟩ : ByteArray) = catS ⟨#[56, 32]⟩ (⟨#[x, y, z, u]⟩ : ByteArray) := by kernel_rfl
    rw [← e, beq_self_eq_true]
noncomputable def qL3_1 (w : Int → Int) (n : Int) (z0 : Int) : Code × S := stP w (orcF (cfg w) 399) 3 4 (p3 w n ([.int .i64 z0]) 3)
theorem toL3_1 (w : Int → Int) (n : Int) (z0 : Int) (N : Code → S → O → Option (AV × O)) (K : Ex → S → O → Option (AV × O)) : evPre (cfg w) (orcF (cfg w) 399) 3 4 (p3 w n ([.int .i64 z0]) 3).1 (p3 w n ([.int .i64 z0]) 3).2 [] N K = N (qL3_1 w n z0).1 (qL3_1 w n z0).2 [] := by kernel_rfl
theorem atL3_1 (Q : Orc) (w : Int → Int) (n : Int) (z0 : Int) (N : Code → S → O → Option (AV × O)) (K : Ex → S → O → Option (AV × O)) : evPre (cfg w) Q 3 1 (qL3_1 w n z0).1 (qL3_1 w n z0).2 [] N K = evPre (cfg w) (ov (ov Q 7 (Q.clo 7 [.str ⟨#[40, 100, 101, 102, 32, 102, 117, 110, 32, 40, 45, 62, 32, 78, 97, 116, 32, 84, 121, 41, 32, 40, 102, 110, 32, 110, 32, 40, 114, 101, 99, 32, 40, 107, 32, 84, 121, 41, 32, 73, 110, 116, 32, 40, 105, 32, 104, 32, 40, 45, 62, 32, 73, 110, 116, 32, 104, 41, 41, 32, 110, 41, 41, 41, 10, 40, 100, 101, 102, 32, 115, 117, 109, 32, 40, 112, 105, 32, 40, 110, 32, 78, 97, 116, 41, 32, 40, 45, 62, 32, 40, 108, 105, 102, 116, 32, 73, 110, 116, 41, 32, 40, 108, 105, 102, 116, 32, 40, 102, 117, 110, 32, 110, 41, 41, 41, 41, 32, 40, 102, 110, 32, 110, 32, 40, 114, 101, 99, 32, 40, 107, 32, 40, 45, 62, 32, 40, 108, 105, 102, 116, 32, 73, 110, 116, 41, 32, 40, 108, 105, 102, 116, 32, 40, 102, 117, 110, 32, 107, 41, 41, 41, 41, 32, 40, 102, 110, 32, 97, 32, 97, 41, 32, 40, 105, 32, 104, 32, 40, 102, 110, 32, 97, 32, 40, 102, 110, 32, 120, 32, 40, 104, 32, 40, 97, 100, 100, 32, 97, 32, 120, 41, 41, 41, 41, 41, 32, 110, 41, 41, 41, 10, 40, 100, 101, 102, 32, 109, 97, 105, 110, 32, 40, 115, 117, 109, 32, 51, 32, 48, 41, 41]⟩, .int .i64 20, .im [.int .i64 (w z0), .int .i64 ((1 : Int)), .int .i64 ((2 : Int))]])) 6 (Q.clo 6 [.int .i64 (IntKind.i64.wrap ((IntKind.i64.wrap ((IntKind.i64.wrap (0 + (w z0))) + ((1 : Int)))) + ((2 : Int))))])) 3 1 (qL3_1 w n z0).1 (qL3_1 w n z0).2 [] N K := by kernel_rfl
noncomputable def qL3_1_0 (w : Int → Int) (n : Int) (z0 : Int) (x : UInt8) : Code × S := stP w (ov (ov noQ 7 (some (.str ⟨#[56, 32, x]⟩))) 6 (some (.str ⟨#[x]⟩))) 3 1 (qL3_1 w n z0)
theorem toL3_1_0 (Q : Orc) (w : Int → Int) (n : Int) (z0 : Int) (x : UInt8) (N : Code → S → O → Option (AV × O)) (K : Ex → S → O → Option (AV × O)) : evPre (cfg w) (ov (ov Q 7 (some (.str ⟨#[56, 32, x]⟩))) 6 (some (.str ⟨#[x]⟩))) 3 1 (qL3_1 w n z0).1 (qL3_1 w n z0).2 [] N K = N (qL3_1_0 w n z0 x).1 (qL3_1_0 w n z0 x).2 [] := by kernel_rfl
theorem endL3_1_0 (w : Int → Int) (n : Int) (z0 : Int) (x : UInt8) : closed (evCode (cfg w) (orcF (cfg w) 399) 3 (qL3_1_0 w n z0 x).1 (qL3_1_0 w n z0 x).2 [] (kBody (cfg w) 3 0 Tryz.f3)) = some (.bool ((⟨#[56, 32, x]⟩ : ByteArray).data.toList == (catS ⟨#[56, 32]⟩ (⟨#[x]⟩ : ByteArray)).data.toList)) := by kernel_rfl
noncomputable def qL3_1_1 (w : Int → Int) (n : Int) (z0 : Int) (x y : UInt8) : Code × S := stP w (ov (ov noQ 7 (some (.str ⟨#[56, 32, x, y]⟩))) 6 (some (.str ⟨#[x, y]⟩))) 3 1 (qL3_1 w n z0)
theorem toL3_1_1 (Q : Orc) (w : Int → Int) (n : Int) (z0 : Int) (x y : UInt8) (N : Code → S → O → Option (AV × O)) (K : Ex → S → O → Option (AV × O)) : evPre (cfg w) (ov (ov Q 7 (some (.str ⟨#[56, 32, x, y]⟩))) 6 (some (.str ⟨#[x, y]⟩))) 3 1 (qL3_1 w n z0).1 (qL3_1 w n z0).2 [] N K = N (qL3_1_1 w n z0 x y).1 (qL3_1_1 w n z0 x y).2 [] := by kernel_rfl
theorem endL3_1_1 (w : Int → Int) (n : Int) (z0 : Int) (x y : UInt8) : closed (evCode (cfg w) (orcF (cfg w) 399) 3 (qL3_1_1 w n z0 x y).1 (qL3_1_1 w n z0 x y).2 [] (kBody (cfg w) 3 0 Tryz.f3)) = some (.bool ((⟨#[56, 32, x, y]⟩ : ByteArray).data.toList == (catS ⟨#[56, 32]⟩ (⟨#[x, y]⟩ : ByteArray)).data.toList)) := by kernel_rfl
noncomputable def qL3_1_2 (w : Int → Int) (n : Int) (z0 : Int) (x y z : UInt8) : Code × S := stP w (ov (ov noQ 7 (some (.str ⟨#[56, 32, x, y, z]⟩))) 6 (some (.str ⟨#[x, y, z]⟩))) 3 1 (qL3_1 w n z0)
theorem toL3_1_2 (Q : Orc) (w : Int → Int) (n : Int) (z0 : Int) (x y z : UInt8) (N : Code → S → O → Option (AV × O)) (K : Ex → S → O → Option (AV × O)) : evPre (cfg w) (ov (ov Q 7 (some (.str ⟨#[56, 32, x, y, z]⟩))) 6 (some (.str ⟨#[x, y, z]⟩))) 3 1 (qL3_1 w n z0).1 (qL3_1 w n z0).2 [] N K = N (qL3_1_2 w n z0 x y z).1 (qL3_1_2 w n z0 x y z).2 [] := by kernel_rfl
theorem endL3_1_2 (w : Int → Int) (n : Int) (z0 : Int) (x y z : UInt8) : closed (evCode (cfg w) (orcF (cfg w) 399) 3 (qL3_1_2 w n z0 x y z).1 (qL3_1_2 w n z0 x y z).2 [] (kBody (cfg w) 3 0 Tryz.f3)) = some (.bool ((⟨#[56, 32, x, y, z]⟩ : ByteArray).data.toList == (catS ⟨#[56, 32]⟩ (⟨#[x, y, z]⟩ : ByteArray)).data.toList)) := by kernel_rfl
noncomputable def qL3_1_3 (w : Int → Int) (n : Int) (z0 : Int) (x y z u : UInt8) : Code × S := stP w (ov (ov noQ 7 (some (.str ⟨#[56, 32, x, y, z, u]⟩))) 6 (some (.str ⟨#[x, y, z, u]⟩))) 3 1 (qL3_1 w n z0)
theorem toL3_1_3 (Q : Orc) (w : Int → Int) (n : Int) (z0 : Int) (x y z u : UInt8) (N : Code → S → O → Option (AV × O)) (K : Ex → S → O → Option (AV × O)) : evPre (cfg w) (ov (ov Q 7 (some (.str ⟨#[56, 32, x, y, z, u]⟩))) 6 (some (.str ⟨#[x, y, z, u]⟩))) 3 1 (qL3_1 w n z0).1 (qL3_1 w n z0).2 [] N K = N (qL3_1_3 w n z0 x y z u).1 (qL3_1_3 w n z0 x y z u).2 [] := by kernel_rfl
theorem endL3_1_3 (w : Int → Int) (n : Int) (z0 : Int) (x y z u : UInt8) : closed (evCode (cfg w) (orcF (cfg w) 399) 3 (qL3_1_3 w n z0 x y z u).1 (qL3_1_3 w n z0 x y z u).2 [] (kBody (cfg w) 3 0 Tryz.f3)) = some (.bool ((⟨#[56, 32, x, y, z, u]⟩ : ByteArray).data.toList == (catS ⟨#[56, 32]⟩ (⟨#[x, y, z, u]⟩ : ByteArray)).data.toList)) := by kernel_rfl
theorem caseL3_1 (w : Int → Int) (n : Int) (z0 : Int) (hw : ∀ m, 0 ≤ w m ∧ w m < 1000) : last w n ([.int .i64 z0]) 3 = some (.bool true) := by
  unfold last
  rw [evCodeF_eq]
  rw [← evPre_eq (cfg w) (orcF (cfg w) 399) 3 _ 4 (p3 w n ([.int .i64 z0]) 3).1, toL3_1]
  rw [← evPre_eq (cfg w) (orcF (cfg w) 399) 3 _ 1 (qL3_1 w n z0).1]
  have e : IntKind.i64.wrap ((IntKind.i64.wrap ((IntKind.i64.wrap (0 + (w z0))) + ((1 : Int)))) + ((2 : Int))) = (w z0) + ((1 : Int)) + ((2 : Int)) ∧ 0 ≤ (w z0) + ((1 : Int)) + ((2 : Int)) ∧ (w z0) + ((1 : Int)) + ((2 : Int)) < 5000 := by
    have hz0 := hw z0
    have s1 : IntKind.i64.wrap (0 + (w z0)) = (w z0) := by
      rw [Int.zero_add]; exact wrap_small (by omega) (by omega)
    have s2 : IntKind.i64.wrap ((IntKind.i64.wrap (0 + (w z0))) + ((1 : Int))) = (w z0) + ((1 : Int)) := by
      rw [s1]; exact wrap_small (by omega) (by omega)
    have s3 : IntKind.i64.wrap ((IntKind.i64.wrap ((IntKind.i64.wrap (0 + (w z0))) + ((1 : Int)))) + ((2 : Int))) = (w z0) + ((1 : Int)) + ((2 : Int)) := by
      rw [s2]; exact wrap_small (by omega) (by omega)
    exact ⟨s3, by omega, by omega⟩
  have h24 : (orcF (cfg w) 398).clo 10 [.ag [.int .i64 1, .int .i64 (IntKind.i64.wrap ((IntKind.i64.wrap ((IntKind.i64.wrap (0 + (w z0))) + ((1 : Int)))) + ((2 : Int)))), .im []]] = some (.str ⟨(digZ ((w z0) + ((1 : Int)) + ((2 : Int)))).toArray⟩) := by rw [e.1]; exact text w 388 e.2.1 e.2.2
  have h9 : (orcF (cfg w) 399).clo 6 [.int .i64 (IntKind.i64.wrap ((IntKind.i64.wrap ((IntKind.i64.wrap (0 + (w z0))) + ((1 : Int)))) + ((2 : Int))))] = some (.str ⟨(digZ ((w z0) + ((1 : Int)) + ((2 : Int)))).toArray⟩) := by rw [e.1]; exact digits w 390 e.2.1 e.2.2
  rcases digZ_shape e.2.1 with ⟨x, hx⟩ | ⟨x, y, hx⟩ | ⟨x, y, z, hx⟩ | ⟨x, y, z, u, hx⟩ <;> rw [hx] at h24 h9
  · rw [atL3_1, told3_0 h24, h9, toL3_1_0, endL3_1_0]
    have e : (⟨#[56, 32, x]⟩ : ByteArray) = catS ⟨#[56, 32]⟩ (⟨#[x]⟩ : ByteArray) := by kernel_rfl
    rw [← e, beq_self_eq_true]
  · rw [atL3_1, told3_1 h24, h9, toL3_1_1, endL3_1_1]
    have e : (⟨#[56, 32, x, y]⟩ : ByteArray) = catS ⟨#[56, 32]⟩ (⟨#[x, y]⟩ : ByteArray) := by kernel_rfl
    rw [← e, beq_self_eq_true]
  · rw [atL3_1, told3_2 h24, h9, toL3_1_2, endL3_1_2]
    have e : (⟨#[56, 32, x, y, z]⟩ : ByteArray) = catS ⟨#[56, 32]⟩ (⟨#[x, y, z]⟩ : ByteArray) := by kernel_rfl
    rw [← e, beq_self_eq_true]
  · rw [atL3_1, told3_3 h24, h9, toL3_1_3, endL3_1_3]
    have e : (⟨#[56, 32, x, y, z, u]⟩ : ByteArray) = catS ⟨#[56, 32]⟩ (⟨#[x, y, z, u]⟩ : ByteArray) := by kernel_rfl
    rw [← e, beq_self_eq_true]
noncomputable def qL3_2 (w : Int → Int) (n : Int) (z0 z1 : Int) : Code × S := stP w (orcF (cfg w) 399) 3 4 (p3 w n ([.int .i64 z0, .int .i64 z1]) 3)
theorem toL3_2 (w : Int → Int) (n : Int) (z0 z1 : Int) (N : Code → S → O → Option (AV × O)) (K : Ex → S → O → Option (AV × O)) : evPre (cfg w) (orcF (cfg w) 399) 3 4 (p3 w n ([.int .i64 z0, .int .i64 z1]) 3).1 (p3 w n ([.int .i64 z0, .int .i64 z1]) 3).2 [] N K = N (qL3_2 w n z0 z1).1 (qL3_2 w n z0 z1).2 [] := by kernel_rfl
theorem atL3_2 (Q : Orc) (w : Int → Int) (n : Int) (z0 z1 : Int) (N : Code → S → O → Option (AV × O)) (K : Ex → S → O → Option (AV × O)) : evPre (cfg w) Q 3 1 (qL3_2 w n z0 z1).1 (qL3_2 w n z0 z1).2 [] N K = evPre (cfg w) (ov (ov Q 7 (Q.clo 7 [.str ⟨#[40, 100, 101, 102, 32, 102, 117, 110, 32, 40, 45, 62, 32, 78, 97, 116, 32, 84, 121, 41, 32, 40, 102, 110, 32, 110, 32, 40, 114, 101, 99, 32, 40, 107, 32, 84, 121, 41, 32, 73, 110, 116, 32, 40, 105, 32, 104, 32, 40, 45, 62, 32, 73, 110, 116, 32, 104, 41, 41, 32, 110, 41, 41, 41, 10, 40, 100, 101, 102, 32, 115, 117, 109, 32, 40, 112, 105, 32, 40, 110, 32, 78, 97, 116, 41, 32, 40, 45, 62, 32, 40, 108, 105, 102, 116, 32, 73, 110, 116, 41, 32, 40, 108, 105, 102, 116, 32, 40, 102, 117, 110, 32, 110, 41, 41, 41, 41, 32, 40, 102, 110, 32, 110, 32, 40, 114, 101, 99, 32, 40, 107, 32, 40, 45, 62, 32, 40, 108, 105, 102, 116, 32, 73, 110, 116, 41, 32, 40, 108, 105, 102, 116, 32, 40, 102, 117, 110, 32, 107, 41, 41, 41, 41, 32, 40, 102, 110, 32, 97, 32, 97, 41, 32, 40, 105, 32, 104, 32, 40, 102, 110, 32, 97, 32, 40, 102, 110, 32, 120, 32, 40, 104, 32, 40, 97, 100, 100, 32, 97, 32, 120, 41, 41, 41, 41, 41, 32, 110, 41, 41, 41, 10, 40, 100, 101, 102, 32, 109, 97, 105, 110, 32, 40, 115, 117, 109, 32, 51, 32, 48, 41, 41]⟩, .int .i64 20, .im [.int .i64 (w z0), .int .i64 (w z1), .int .i64 ((2 : Int))]])) 6 (Q.clo 6 [.int .i64 (IntKind.i64.wrap ((IntKind.i64.wrap ((IntKind.i64.wrap (0 + (w z0))) + (w z1))) + ((2 : Int))))])) 3 1 (qL3_2 w n z0 z1).1 (qL3_2 w n z0 z1).2 [] N K := by kernel_rfl
noncomputable def qL3_2_0 (w : Int → Int) (n : Int) (z0 z1 : Int) (x : UInt8) : Code × S := stP w (ov (ov noQ 7 (some (.str ⟨#[56, 32, x]⟩))) 6 (some (.str ⟨#[x]⟩))) 3 1 (qL3_2 w n z0 z1)
theorem toL3_2_0 (Q : Orc) (w : Int → Int) (n : Int) (z0 z1 : Int) (x : UInt8) (N : Code → S → O → Option (AV × O)) (K : Ex → S → O → Option (AV × O)) : evPre (cfg w) (ov (ov Q 7 (some (.str ⟨#[56, 32, x]⟩))) 6 (some (.str ⟨#[x]⟩))) 3 1 (qL3_2 w n z0 z1).1 (qL3_2 w n z0 z1).2 [] N K = N (qL3_2_0 w n z0 z1 x).1 (qL3_2_0 w n z0 z1 x).2 [] := by kernel_rfl
theorem endL3_2_0 (w : Int → Int) (n : Int) (z0 z1 : Int) (x : UInt8) : closed (evCode (cfg w) (orcF (cfg w) 399) 3 (qL3_2_0 w n z0 z1 x).1 (qL3_2_0 w n z0 z1 x).2 [] (kBody (cfg w) 3 0 Tryz.f3)) = some (.bool ((⟨#[56, 32, x]⟩ : ByteArray).data.toList == (catS ⟨#[56, 32]⟩ (⟨#[x]⟩ : ByteArray)).data.toList)) := by kernel_rfl
noncomputable def qL3_2_1 (w : Int → Int) (n : Int) (z0 z1 : Int) (x y : UInt8) : Code × S := stP w (ov (ov noQ 7 (some (.str ⟨#[56, 32, x, y]⟩))) 6 (some (.str ⟨#[x, y]⟩))) 3 1 (qL3_2 w n z0 z1)
theorem toL3_2_1 (Q : Orc) (w : Int → Int) (n : Int) (z0 z1 : Int) (x y : UInt8) (N : Code → S → O → Option (AV × O)) (K : Ex → S → O → Option (AV × O)) : evPre (cfg w) (ov (ov Q 7 (some (.str ⟨#[56, 32, x, y]⟩))) 6 (some (.str ⟨#[x, y]⟩))) 3 1 (qL3_2 w n z0 z1).1 (qL3_2 w n z0 z1).2 [] N K = N (qL3_2_1 w n z0 z1 x y).1 (qL3_2_1 w n z0 z1 x y).2 [] := by kernel_rfl
theorem endL3_2_1 (w : Int → Int) (n : Int) (z0 z1 : Int) (x y : UInt8) : closed (evCode (cfg w) (orcF (cfg w) 399) 3 (qL3_2_1 w n z0 z1 x y).1 (qL3_2_1 w n z0 z1 x y).2 [] (kBody (cfg w) 3 0 Tryz.f3)) = some (.bool ((⟨#[56, 32, x, y]⟩ : ByteArray).data.toList == (catS ⟨#[56, 32]⟩ (⟨#[x, y]⟩ : ByteArray)).data.toList)) := by kernel_rfl
noncomputable def qL3_2_2 (w : Int → Int) (n : Int) (z0 z1 : Int) (x y z : UInt8) : Code × S := stP w (ov (ov noQ 7 (some (.str ⟨#[56, 32, x, y, z]⟩))) 6 (some (.str ⟨#[x, y, z]⟩))) 3 1 (qL3_2 w n z0 z1)
theorem toL3_2_2 (Q : Orc) (w : Int → Int) (n : Int) (z0 z1 : Int) (x y z : UInt8) (N : Code → S → O → Option (AV × O)) (K : Ex → S → O → Option (AV × O)) : evPre (cfg w) (ov (ov Q 7 (some (.str ⟨#[56, 32, x, y, z]⟩))) 6 (some (.str ⟨#[x, y, z]⟩))) 3 1 (qL3_2 w n z0 z1).1 (qL3_2 w n z0 z1).2 [] N K = N (qL3_2_2 w n z0 z1 x y z).1 (qL3_2_2 w n z0 z1 x y z).2 [] := by kernel_rfl
theorem endL3_2_2 (w : Int → Int) (n : Int) (z0 z1 : Int) (x y z : UInt8) : closed (evCode (cfg w) (orcF (cfg w) 399) 3 (qL3_2_2 w n z0 z1 x y z).1 (qL3_2_2 w n z0 z1 x y z).2 [] (kBody (cfg w) 3 0 Tryz.f3)) = some (.bool ((⟨#[56, 32, x, y, z]⟩ : ByteArray).data.toList == (catS ⟨#[56, 32]⟩ (⟨#[x, y, z]⟩ : ByteArray)).data.toList)) := by kernel_rfl
noncomputable def qL3_2_3 (w : Int → Int) (n : Int) (z0 z1 : Int) (x y z u : UInt8) : Code × S := stP w (ov (ov noQ 7 (some (.str ⟨#[56, 32, x, y, z, u]⟩))) 6 (some (.str ⟨#[x, y, z, u]⟩))) 3 1 (qL3_2 w n z0 z1)
theorem toL3_2_3 (Q : Orc) (w : Int → Int) (n : Int) (z0 z1 : Int) (x y z u : UInt8) (N : Code → S → O → Option (AV × O)) (K : Ex → S → O → Option (AV × O)) : evPre (cfg w) (ov (ov Q 7 (some (.str ⟨#[56, 32, x, y, z, u]⟩))) 6 (some (.str ⟨#[x, y, z, u]⟩))) 3 1 (qL3_2 w n z0 z1).1 (qL3_2 w n z0 z1).2 [] N K = N (qL3_2_3 w n z0 z1 x y z u).1 (qL3_2_3 w n z0 z1 x y z u).2 [] := by kernel_rfl
theorem endL3_2_3 (w : Int → Int) (n : Int) (z0 z1 : Int) (x y z u : UInt8) : closed (evCode (cfg w) (orcF (cfg w) 399) 3 (qL3_2_3 w n z0 z1 x y z u).1 (qL3_2_3 w n z0 z1 x y z u).2 [] (kBody (cfg w) 3 0 Tryz.f3)) = some (.bool ((⟨#[56, 32, x, y, z, u]⟩ : ByteArray).data.toList == (catS ⟨#[56, 32]⟩ (⟨#[x, y, z, u]⟩ : ByteArray)).data.toList)) := by kernel_rfl
theorem caseL3_2 (w : Int → Int) (n : Int) (z0 z1 : Int) (hw : ∀ m, 0 ≤ w m ∧ w m < 1000) : last w n ([.int .i64 z0, .int .i64 z1]) 3 = some (.bool true) := by
  unfold last
  rw [evCodeF_eq]
  rw [← evPre_eq (cfg w) (orcF (cfg w) 399) 3 _ 4 (p3 w n ([.int .i64 z0, .int .i64 z1]) 3).1, toL3_2]
  rw [← evPre_eq (cfg w) (orcF (cfg w) 399) 3 _ 1 (qL3_2 w n z0 z1).1]
  have e : IntKind.i64.wrap ((IntKind.i64.wrap ((IntKind.i64.wrap (0 + (w z0))) + (w z1))) + ((2 : Int))) = (w z0) + (w z1) + ((2 : Int)) ∧ 0 ≤ (w z0) + (w z1) + ((2 : Int)) ∧ (w z0) + (w z1) + ((2 : Int)) < 5000 := by
    have hz0 := hw z0
    have hz1 := hw z1
    have s1 : IntKind.i64.wrap (0 + (w z0)) = (w z0) := by
      rw [Int.zero_add]; exact wrap_small (by omega) (by omega)
    have s2 : IntKind.i64.wrap ((IntKind.i64.wrap (0 + (w z0))) + (w z1)) = (w z0) + (w z1) := by
      rw [s1]; exact wrap_small (by omega) (by omega)
    have s3 : IntKind.i64.wrap ((IntKind.i64.wrap ((IntKind.i64.wrap (0 + (w z0))) + (w z1))) + ((2 : Int))) = (w z0) + (w z1) + ((2 : Int)) := by
      rw [s2]; exact wrap_small (by omega) (by omega)
    exact ⟨s3, by omega, by omega⟩
  have h24 : (orcF (cfg w) 398).clo 10 [.ag [.int .i64 1, .int .i64 (IntKind.i64.wrap ((IntKind.i64.wrap ((IntKind.i64.wrap (0 + (w z0))) + (w z1))) + ((2 : Int)))), .im []]] = some (.str ⟨(digZ ((w z0) + (w z1) + ((2 : Int)))).toArray⟩) := by rw [e.1]; exact text w 388 e.2.1 e.2.2
  have h9 : (orcF (cfg w) 399).clo 6 [.int .i64 (IntKind.i64.wrap ((IntKind.i64.wrap ((IntKind.i64.wrap (0 + (w z0))) + (w z1))) + ((2 : Int))))] = some (.str ⟨(digZ ((w z0) + (w z1) + ((2 : Int)))).toArray⟩) := by rw [e.1]; exact digits w 390 e.2.1 e.2.2
  rcases digZ_shape e.2.1 with ⟨x, hx⟩ | ⟨x, y, hx⟩ | ⟨x, y, z, hx⟩ | ⟨x, y, z, u, hx⟩ <;> rw [hx] at h24 h9
  · rw [atL3_2, told3_0 h24, h9, toL3_2_0, endL3_2_0]
    have e : (⟨#[56, 32, x]⟩ : ByteArray) = catS ⟨#[56, 32]⟩ (⟨#[x]⟩ : ByteArray) := by kernel_rfl
    rw [← e, beq_self_eq_true]
  · rw [atL3_2, told3_1 h24, h9, toL3_2_1, endL3_2_1]
    have e : (⟨#[56, 32, x, y]⟩ : ByteArray) = catS ⟨#[56, 32]⟩ (⟨#[x, y]⟩ : ByteArray) := by kernel_rfl
    rw [← e, beq_self_eq_true]
  · rw [atL3_2, told3_2 h24, h9, toL3_2_2, endL3_2_2]
    have e : (⟨#[56, 32, x, y, z]⟩ : ByteArray) = catS ⟨#[56, 32]⟩ (⟨#[x, y, z]⟩ : ByteArray) := by kernel_rfl
    rw [← e, beq_self_eq_true]
  · rw [atL3_2, told3_3 h24, h9, toL3_2_3, endL3_2_3]
    have e : (⟨#[56, 32, x, y, z, u]⟩ : ByteArray) = catS ⟨#[56, 32]⟩ (⟨#[x, y, z, u]⟩ : ByteArray) := by kernel_rfl
    rw [← e, beq_self_eq_true]
noncomputable def qL3_3 (w : Int → Int) (n : Int) (z0 z1 z2 : Int) (xs : List CV) : Code × S := stP w (orcF (cfg w) 399) 3 4 (p3 w n (.int .i64 z0 :: .int .i64 z1 :: .int .i64 z2 :: xs) 3)
theorem toL3_3 (w : Int → Int) (n : Int) (z0 z1 z2 : Int) (xs : List CV) (N : Code → S → O → Option (AV × O)) (K : Ex → S → O → Option (AV × O)) : evPre (cfg w) (orcF (cfg w) 399) 3 4 (p3 w n (.int .i64 z0 :: .int .i64 z1 :: .int .i64 z2 :: xs) 3).1 (p3 w n (.int .i64 z0 :: .int .i64 z1 :: .int .i64 z2 :: xs) 3).2 [] N K = N (qL3_3 w n z0 z1 z2 xs).1 (qL3_3 w n z0 z1 z2 xs).2 [] := by kernel_rfl
theorem atL3_3 (Q : Orc) (w : Int → Int) (n : Int) (z0 z1 z2 : Int) (xs : List CV) (N : Code → S → O → Option (AV × O)) (K : Ex → S → O → Option (AV × O)) : evPre (cfg w) Q 3 1 (qL3_3 w n z0 z1 z2 xs).1 (qL3_3 w n z0 z1 z2 xs).2 [] N K = evPre (cfg w) (ov (ov Q 7 (Q.clo 7 [.str ⟨#[40, 100, 101, 102, 32, 102, 117, 110, 32, 40, 45, 62, 32, 78, 97, 116, 32, 84, 121, 41, 32, 40, 102, 110, 32, 110, 32, 40, 114, 101, 99, 32, 40, 107, 32, 84, 121, 41, 32, 73, 110, 116, 32, 40, 105, 32, 104, 32, 40, 45, 62, 32, 73, 110, 116, 32, 104, 41, 41, 32, 110, 41, 41, 41, 10, 40, 100, 101, 102, 32, 115, 117, 109, 32, 40, 112, 105, 32, 40, 110, 32, 78, 97, 116, 41, 32, 40, 45, 62, 32, 40, 108, 105, 102, 116, 32, 73, 110, 116, 41, 32, 40, 108, 105, 102, 116, 32, 40, 102, 117, 110, 32, 110, 41, 41, 41, 41, 32, 40, 102, 110, 32, 110, 32, 40, 114, 101, 99, 32, 40, 107, 32, 40, 45, 62, 32, 40, 108, 105, 102, 116, 32, 73, 110, 116, 41, 32, 40, 108, 105, 102, 116, 32, 40, 102, 117, 110, 32, 107, 41, 41, 41, 41, 32, 40, 102, 110, 32, 97, 32, 97, 41, 32, 40, 105, 32, 104, 32, 40, 102, 110, 32, 97, 32, 40, 102, 110, 32, 120, 32, 40, 104, 32, 40, 97, 100, 100, 32, 97, 32, 120, 41, 41, 41, 41, 41, 32, 110, 41, 41, 41, 10, 40, 100, 101, 102, 32, 109, 97, 105, 110, 32, 40, 115, 117, 109, 32, 51, 32, 48, 41, 41]⟩, .int .i64 20, .im [.int .i64 (w z0), .int .i64 (w z1), .int .i64 (w z2)]])) 6 (Q.clo 6 [.int .i64 (IntKind.i64.wrap ((IntKind.i64.wrap ((IntKind.i64.wrap (0 + (w z0))) + (w z1))) + (w z2)))])) 3 1 (qL3_3 w n z0 z1 z2 xs).1 (qL3_3 w n z0 z1 z2 xs).2 [] N K := by kernel_rfl
noncomputable def qL3_3_0 (w : Int → Int) (n : Int) (z0 z1 z2 : Int) (xs : List CV) (x : UInt8) : Code × S := stP w (ov (ov noQ 7 (some (.str ⟨#[56, 32, x]⟩))) 6 (some (.str ⟨#[x]⟩))) 3 1 (qL3_3 w n z0 z1 z2 xs)
theorem toL3_3_0 (Q : Orc) (w : Int → Int) (n : Int) (z0 z1 z2 : Int) (xs : List CV) (x : UInt8) (N : Code → S → O → Option (AV × O)) (K : Ex → S → O → Option (AV × O)) : evPre (cfg w) (ov (ov Q 7 (some (.str ⟨#[56, 32, x]⟩))) 6 (some (.str ⟨#[x]⟩))) 3 1 (qL3_3 w n z0 z1 z2 xs).1 (qL3_3 w n z0 z1 z2 xs).2 [] N K = N (qL3_3_0 w n z0 z1 z2 xs x).1 (qL3_3_0 w n z0 z1 z2 xs x).2 [] := by kernel_rfl
theorem endL3_3_0 (w : Int → Int) (n : Int) (z0 z1 z2 : Int) (xs : List CV) (x : UInt8) : closed (evCode (cfg w) (orcF (cfg w) 399) 3 (qL3_3_0 w n z0 z1 z2 xs x).1 (qL3_3_0 w n z0 z1 z2 xs x).2 [] (kBody (cfg w) 3 0 Tryz.f3)) = some (.bool ((⟨#[56, 32, x]⟩ : ByteArray).data.toList == (catS ⟨#[56, 32]⟩ (⟨#[x]⟩ : ByteArray)).data.toList)) := by kernel_rfl
noncomputable def qL3_3_1 (w : Int → Int) (n : Int) (z0 z1 z2 : Int) (xs : List CV) (x y : UInt8) : Code × S := stP w (ov (ov noQ 7 (some (.str ⟨#[56, 32, x, y]⟩))) 6 (some (.str ⟨#[x, y]⟩))) 3 1 (qL3_3 w n z0 z1 z2 xs)
theorem toL3_3_1 (Q : Orc) (w : Int → Int) (n : Int) (z0 z1 z2 : Int) (xs : List CV) (x y : UInt8) (N : Code → S → O → Option (AV × O)) (K : Ex → S → O → Option (AV × O)) : evPre (cfg w) (ov (ov Q 7 (some (.str ⟨#[56, 32, x, y]⟩))) 6 (some (.str ⟨#[x, y]⟩))) 3 1 (qL3_3 w n z0 z1 z2 xs).1 (qL3_3 w n z0 z1 z2 xs).2 [] N K = N (qL3_3_1 w n z0 z1 z2 xs x y).1 (qL3_3_1 w n z0 z1 z2 xs x y).2 [] := by kernel_rfl
theorem endL3_3_1 (w : Int → Int) (n : Int) (z0 z1 z2 : Int) (xs : List CV) (x y : UInt8) : closed (evCode (cfg w) (orcF (cfg w) 399) 3 (qL3_3_1 w n z0 z1 z2 xs x y).1 (qL3_3_1 w n z0 z1 z2 xs x y).2 [] (kBody (cfg w) 3 0 Tryz.f3)) = some (.bool ((⟨#[56, 32, x, y]⟩ : ByteArray).data.toList == (catS ⟨#[56, 32]⟩ (⟨#[x, y]⟩ : ByteArray)).data.toList)) := by kernel_rfl
noncomputable def qL3_3_2 (w : Int → Int) (n : Int) (z0 z1 z2 : Int) (xs : List CV) (x y z : UInt8) : Code × S := stP w (ov (ov noQ 7 (some (.str ⟨#[56, 32, x, y, z]⟩))) 6 (some (.str ⟨#[x, y, z]⟩))) 3 1 (qL3_3 w n z0 z1 z2 xs)
theorem toL3_3_2 (Q : Orc) (w : Int → Int) (n : Int) (z0 z1 z2 : Int) (xs : List CV) (x y z : UInt8) (N : Code → S → O → Option (AV × O)) (K : Ex → S → O → Option (AV × O)) : evPre (cfg w) (ov (ov Q 7 (some (.str ⟨#[56, 32, x, y, z]⟩))) 6 (some (.str ⟨#[x, y, z]⟩))) 3 1 (qL3_3 w n z0 z1 z2 xs).1 (qL3_3 w n z0 z1 z2 xs).2 [] N K = N (qL3_3_2 w n z0 z1 z2 xs x y z).1 (qL3_3_2 w n z0 z1 z2 xs x y z).2 [] := by kernel_rfl
theorem endL3_3_2 (w : Int → Int) (n : Int) (z0 z1 z2 : Int) (xs : List CV) (x y z : UInt8) : closed (evCode (cfg w) (orcF (cfg w) 399) 3 (qL3_3_2 w n z0 z1 z2 xs x y z).1 (qL3_3_2 w n z0 z1 z2 xs x y z).2 [] (kBody (cfg w) 3 0 Tryz.f3)) = some (.bool ((⟨#[56, 32, x, y, z]⟩ : ByteArray).data.toList == (catS ⟨#[56, 32]⟩ (⟨#[x, y, z]⟩ : ByteArray)).data.toList)) := by kernel_rfl
noncomputable def qL3_3_3 (w : Int → Int) (n : Int) (z0 z1 z2 : Int) (xs : List CV) (x y z u : UInt8) : Code × S := stP w (ov (ov noQ 7 (some (.str ⟨#[56, 32, x, y, z, u]⟩))) 6 (some (.str ⟨#[x, y, z, u]⟩))) 3 1 (qL3_3 w n z0 z1 z2 xs)
theorem toL3_3_3 (Q : Orc) (w : Int → Int) (n : Int) (z0 z1 z2 : Int) (xs : List CV) (x y z u : UInt8) (N : Code → S → O → Option (AV × O)) (K : Ex → S → O → Option (AV × O)) : evPre (cfg w) (ov (ov Q 7 (some (.str ⟨#[56, 32, x, y, z, u]⟩))) 6 (some (.str ⟨#[x, y, z, u]⟩))) 3 1 (qL3_3 w n z0 z1 z2 xs).1 (qL3_3 w n z0 z1 z2 xs).2 [] N K = N (qL3_3_3 w n z0 z1 z2 xs x y z u).1 (qL3_3_3 w n z0 z1 z2 xs x y z u).2 [] := by kernel_rfl
theorem endL3_3_3 (w : Int → Int) (n : Int) (z0 z1 z2 : Int) (xs : List CV) (x y z u : UInt8) : closed (evCode (cfg w) (orcF (cfg w) 399) 3 (qL3_3_3 w n z0 z1 z2 xs x y z u).1 (qL3_3_3 w n z0 z1 z2 xs x y z u).2 [] (kBody (cfg w) 3 0 Tryz.f3)) = some (.bool ((⟨#[56, 32, x, y, z, u]⟩ : ByteArray).data.toList == (catS ⟨#[56, 32]⟩ (⟨#[x, y, z, u]⟩ : ByteArray)).data.toList)) := by kernel_rfl
theorem caseL3_3 (w : Int → Int) (n : Int) (z0 z1 z2 : Int) (xs : List CV) (hw : ∀ m, 0 ≤ w m ∧ w m < 1000) : last w n (.int .i64 z0 :: .int .i64 z1 :: .int .i64 z2 :: xs) 3 = some (.bool true) := by
  unfold last
  rw [evCodeF_eq]
  rw [← evPre_eq (cfg w) (orcF (cfg w) 399) 3 _ 4 (p3 w n (.int .i64 z0 :: .int .i64 z1 :: .int .i64 z2 :: xs) 3).1, toL3_3]
  rw [← evPre_eq (cfg w) (orcF (cfg w) 399) 3 _ 1 (qL3_3 w n z0 z1 z2 xs).1]
  have e : IntKind.i64.wrap ((IntKind.i64.wrap ((IntKind.i64.wrap (0 + (w z0))) + (w z1))) + (w z2)) = (w z0) + (w z1) + (w z2) ∧ 0 ≤ (w z0) + (w z1) + (w z2) ∧ (w z0) + (w z1) + (w z2) < 5000 := by
    have hz0 := hw z0
    have hz1 := hw z1
    have hz2 := hw z2
    have s1 : IntKind.i64.wrap (0 + (w z0)) = (w z0) := by
      rw [Int.zero_add]; exact wrap_small (by omega) (by omega)
    have s2 : IntKind.i64.wrap ((IntKind.i64.wrap (0 + (w z0))) + (w z1)) = (w z0) + (w z1) := by
      rw [s1]; exact wrap_small (by omega) (by omega)
    have s3 : IntKind.i64.wrap ((IntKind.i64.wrap ((IntKind.i64.wrap (0 + (w z0))) + (w z1))) + (w z2)) = (w z0) + (w z1) + (w z2) := by
      rw [s2]; exact wrap_small (by omega) (by omega)
    exact ⟨s3, by omega, by omega⟩
  have h24 : (orcF (cfg w) 398).clo 10 [.ag [.int .i64 1, .int .i64 (IntKind.i64.wrap ((IntKind.i64.wrap ((IntKind.i64.wrap (0 + (w z0))) + (w z1))) + (w z2))), .im []]] = some (.str ⟨(digZ ((w z0) + (w z1) + (w z2))).toArray⟩) := by rw [e.1]; exact text w 388 e.2.1 e.2.2
  have h9 : (orcF (cfg w) 399).clo 6 [.int .i64 (IntKind.i64.wrap ((IntKind.i64.wrap ((IntKind.i64.wrap (0 + (w z0))) + (w z1))) + (w z2)))] = some (.str ⟨(digZ ((w z0) + (w z1) + (w z2))).toArray⟩) := by rw [e.1]; exact digits w 390 e.2.1 e.2.2
  rcases digZ_shape e.2.1 with ⟨x, hx⟩ | ⟨x, y, hx⟩ | ⟨x, y, z, hx⟩ | ⟨x, y, z, u, hx⟩ <;> rw [hx] at h24 h9
  · rw [atL3_3, told3_0 h24, h9, toL3_3_0, endL3_3_0]
    have e : (⟨#[56, 32, x]⟩ : ByteArray) = catS ⟨#[56, 32]⟩ (⟨#[x]⟩ : ByteArray) := by kernel_rfl
    rw [← e, beq_self_eq_true]
  · rw [atL3_3, told3_1 h24, h9, toL3_3_1, endL3_3_1]
    have e : (⟨#[56, 32, x, y]⟩ : ByteArray) = catS ⟨#[56, 32]⟩ (⟨#[x, y]⟩ : ByteArray) := by kernel_rfl
    rw [← e, beq_self_eq_true]
  · rw [atL3_3, told3_2 h24, h9, toL3_3_2, endL3_3_2]
    have e : (⟨#[56, 32, x, y, z]⟩ : ByteArray) = catS ⟨#[56, 32]⟩ (⟨#[x, y, z]⟩ : ByteArray) := by kernel_rfl
    rw [← e, beq_self_eq_true]
  · rw [atL3_3, told3_3 h24, h9, toL3_3_3, endL3_3_3]
    have e : (⟨#[56, 32, x, y, z, u]⟩ : ByteArray) = catS ⟨#[56, 32]⟩ (⟨#[x, y, z, u]⟩ : ByteArray) := by kernel_rfl
    rw [← e, beq_self_eq_true]
end Go.Proofs.YthndchidnkbgiaaGreatDoor.W
