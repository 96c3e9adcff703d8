/- DriveArgs: the value's text; what is told of two numbers. -/
import Derived.Test.YtndojngcaohgnaaGreatDoorDADA
import Derived.Test.YtndojngcaohgnaaGreatDoorDADB
import Derived.Test.YtndojngcaohgnaaGreatDoorDAXA
import Derived.Test.YtndojngcaohgnaaGreatDoorDAXB
set_option linter.unusedVariables false
set_option linter.unusedSectionVars false
set_option linter.unusedSimpArgs false
set_option linter.unnecessarySimpa false
namespace Go.Proofs.YtndojngcaohgnaaGreatDoor
open Go Go.Ev
theorem digits (n : Nat) {m : Int} (h1 : -999 ≤ m) (h2 : m < 1000) : (orcF cfg (n + 8)).clo 10 [.int .i64 m] = some (.str ⟨(digZ m).toArray⟩) := by
  rcases (by omega : (-999 ≤ m ∧ m < -999 + 250) ∨ (-749 ≤ m ∧ m < -749 + 250) ∨ (-499 ≤ m ∧ m < -499 + 250) ∨ (-249 ≤ m ∧ m < -249 + 250) ∨ (1 ≤ m ∧ m < 1 + 250) ∨ (251 ≤ m ∧ m < 251 + 250) ∨ (501 ≤ m ∧ m < 501 + 250) ∨ (750 ≤ m ∧ m < 750 + 250)) with ⟨k1, k2⟩ | ⟨k1, k2⟩ | ⟨k1, k2⟩ | ⟨k1, k2⟩ | ⟨k1, k2⟩ | ⟨k1, k2⟩ | ⟨k1, k2⟩ | ⟨k1, k2⟩
  · exact dig_of (dig0 n) k1 k2
  · exact dig_of (dig1 n) k1 k2
  · exact dig_of (dig2 n) k1 k2
  · exact dig_of (dig3 n) k1 k2
  · exact dig_of (dig4 n) k1 k2
  · exact dig_of (dig5 n) k1 k2
  · exact dig_of (dig6 n) k1 k2
  · exact dig_of (dig7 n) k1 k2
theorem text (n : Nat) {m : Int} (h1 : -999 ≤ m) (h2 : m < 1000) : (orcF cfg (n + 9)).clo 24 [.ag [.int .i64 1, .int .i64 m, .im []]] = some (.str ⟨(digZ m).toArray⟩) := by
  rcases (by omega : (-999 ≤ m ∧ m < -999 + 250) ∨ (-749 ≤ m ∧ m < -749 + 250) ∨ (-499 ≤ m ∧ m < -499 + 250) ∨ (-249 ≤ m ∧ m < -249 + 250) ∨ (1 ≤ m ∧ m < 1 + 250) ∨ (251 ≤ m ∧ m < 251 + 250) ∨ (501 ≤ m ∧ m < 501 + 250) ∨ (750 ≤ m ∧ m < 750 + 250)) with ⟨k1, k2⟩ | ⟨k1, k2⟩ | ⟨k1, k2⟩ | ⟨k1, k2⟩ | ⟨k1, k2⟩ | ⟨k1, k2⟩ | ⟨k1, k2⟩ | ⟨k1, k2⟩
  · exact txt_of (txt0 n) k1 k2
  · exact txt_of (txt1 n) k1 k2
  · exact txt_of (txt2 n) k1 k2
  · exact txt_of (txt3 n) k1 k2
  · exact txt_of (txt4 n) k1 k2
  · exact txt_of (txt5 n) k1 k2
  · exact txt_of (txt6 n) k1 k2
  · exact txt_of (txt7 n) k1 k2
theorem far8 : (orcF cfg 398).clo 10 [.int .i64 8] = some (.str ⟨#[56]⟩) := by kernel_rfl
theorem drive0 (a b : Int) : (orcF cfg 398).clo 11 [.str ⟨#[40, 100, 101, 102, 32, 109, 97, 105, 110, 32, 40, 102, 110, 32, 40, 120, 32, 73, 110, 116, 41, 32, 40, 102, 110, 32, 40, 121, 32, 73, 110, 116, 41, 32, 40, 115, 117, 98, 32, 120, 32, 121, 41, 41, 41, 41]⟩, .im [.ag [.int .i64 1, .int .i64 a, .im []], .ag [.int .i64 1, .int .i64 b, .im []]], .int .i64 9] = some (.tp [.ag [.int .i64 8, .int .i64 20, .int .i64 0, .im [.ag [.int .i64 15, .int .i64 0, .im []], .ag [.int .i64 20, .int .i64 0, .im [.ag [.int .i64 15, .int .i64 0, .im []], .ag [.int .i64 26, .int .i64 1, .im [.ag [.int .i64 1, .int .i64 1, .im []], .ag [.int .i64 1, .int .i64 0, .im []]]]]]], .int .i64 16, .int .i64 0, .im [.ag [.int .i64 15, .int .i64 0, .im []], .ag [.int .i64 16, .int .i64 0, .im [.ag [.int .i64 15, .int .i64 0, .im []], .ag [.int .i64 15, .int .i64 0, .im []]]]], .int .i64 20, .int .i64 0, .im [.ag [.int .i64 15, .int .i64 0, .im []], .ag [.int .i64 20, .int .i64 0, .im [.ag [.int .i64 15, .int .i64 0, .im []], .ag [.int .i64 26, .int .i64 1, .im [.ag [.int .i64 1, .int .i64 1, .im []], .ag [.int .i64 1, .int .i64 0, .im []]]]]]], .int .i64 1, .int .i64 (IntKind.i64.wrap (a - b)), .im []], .int .i64 0]) := by kernel_rfl
noncomputable def body13 : Code := (Tryz.f13.body).getD .skip
noncomputable def p13_0 (a b : Int) : Code × S := (body13, ⟨inArgsF 0 [.c (.str ⟨#[40, 100, 101, 102, 32, 109, 97, 105, 110, 32, 40, 102, 110, 32, 40, 120, 32, 73, 110, 116, 41, 32, 40, 102, 110, 32, 40, 121, 32, 73, 110, 116, 41, 32, 40, 115, 117, 98, 32, 120, 32, 121, 41, 41, 41, 41]⟩), .c (.int .i64 9), .c (.im [.int .i64 a, .int .i64 b])], fun _ => none, 0⟩)
noncomputable def p13_3 (a b : Int) : Code × S := stP (orcF cfg 398) 13 3 (p13_0 a b)
noncomputable def p13_4 (a b : Int) : Code × S := stP (ov noQ 11 (some (.tp [.ag [.int .i64 8, .int .i64 20, .int .i64 0, .im [.ag [.int .i64 15, .int .i64 0, .im []], .ag [.int .i64 20, .int .i64 0, .im [.ag [.int .i64 15, .int .i64 0, .im []], .ag [.int .i64 26, .int .i64 1, .im [.ag [.int .i64 1, .int .i64 1, .im []], .ag [.int .i64 1, .int .i64 0, .im []]]]]]], .int .i64 16, .int .i64 0, .im [.ag [.int .i64 15, .int .i64 0, .im []], .ag [.int .i64 16, .int .i64 0, .im [.ag [.int .i64 15, .int .i64 0, .im []], .ag [.int .i64 15, .int .i64 0, .im []]]]], .int .i64 20, .int .i64 0, .im [.ag [.int .i64 15, .int .i64 0, .im []], .ag [.int .i64 20, .int .i64 0, .im [.ag [.int .i64 15, .int .i64 0, .im []], .ag [.int .i64 26, .int .i64 1, .im [.ag [.int .i64 1, .int .i64 1, .im []], .ag [.int .i64 1, .int .i64 0, .im []]]]]]], .int .i64 1, .int .i64 (IntKind.i64.wrap (a - b)), .im []], .int .i64 0]))) 13 1 (p13_3 a b)
noncomputable def p13_5 (a b : Int) : Code × S := stP noQ 13 1 (p13_4 a b)
section
variable (Q : Orc) (a b : Int) (x y z u : UInt8) (N : Code → S → O → Option (AV × O)) (K : Ex → S → O → Option (AV × O))
theorem to13_3 : evPre cfg (orcF cfg 398) 13 3 (p13_0 a b).1 (p13_0 a b).2 [] N K = N (p13_3 a b).1 (p13_3 a b).2 [] := by kernel_rfl
theorem at13_4 : evPre cfg Q 13 1 (p13_3 a b).1 (p13_3 a b).2 [] N K = evPre cfg (ov Q 11 (Q.clo 11 [.str ⟨#[40, 100, 101, 102, 32, 109, 97, 105, 110, 32, 40, 102, 110, 32, 40, 120, 32, 73, 110, 116, 41, 32, 40, 102, 110, 32, 40, 121, 32, 73, 110, 116, 41, 32, 40, 115, 117, 98, 32, 120, 32, 121, 41, 41, 41, 41]⟩, .im [.ag [.int .i64 1, .int .i64 a, .im []], .ag [.int .i64 1, .int .i64 b, .im []]], .int .i64 9])) 13 1 (p13_3 a b).1 (p13_3 a b).2 [] N K := by kernel_rfl
theorem to13_4 : evPre cfg (ov Q 11 (some (.tp [.ag [.int .i64 8, .int .i64 20, .int .i64 0, .im [.ag [.int .i64 15, .int .i64 0, .im []], .ag [.int .i64 20, .int .i64 0, .im [.ag [.int .i64 15, .int .i64 0, .im []], .ag [.int .i64 26, .int .i64 1, .im [.ag [.int .i64 1, .int .i64 1, .im []], .ag [.int .i64 1, .int .i64 0, .im []]]]]]], .int .i64 16, .int .i64 0, .im [.ag [.int .i64 15, .int .i64 0, .im []], .ag [.int .i64 16, .int .i64 0, .im [.ag [.int .i64 15, .int .i64 0, .im []], .ag [.int .i64 15, .int .i64 0, .im []]]]], .int .i64 20, .int .i64 0, .im [.ag [.int .i64 15, .int .i64 0, .im []], .ag [.int .i64 20, .int .i64 0, .im [.ag [.int .i64 15, .int .i64 0, .im []], .ag [.int .i64 26, .int .i64 1, .im [.ag [.int .i64 1, .int .i64 1, .im []], .ag [.int .i64 1, .int .i64 0, .im []]]]]]], .int .i64 1, .int .i64 (IntKind.i64.wrap (a - b)), .im []], .int .i64 0]))) 13 1 (p13_3 a b).1 (p13_3 a b).2 [] N K = N (p13_4 a b).1 (p13_4 a b).2 [] := by kernel_rfl
theorem to13_5 : evPre cfg Q 13 1 (p13_4 a b).1 (p13_4 a b).2 [] N K = N (p13_5 a b).1 (p13_5 a b).2 [] := by kernel_rfl
theorem at13_6 : evPre cfg Q 13 1 (p13_5 a b).1 (p13_5 a b).2 [] N K = evPre cfg (ov (ov Q 10 (Q.clo 10 [.int .i64 8])) 24 (Q.clo 24 [.ag [.int .i64 1, .int .i64 (IntKind.i64.wrap (a - b)), .im []]])) 13 1 (p13_5 a b).1 (p13_5 a b).2 [] N K := by kernel_rfl
end
noncomputable def p13_6_0 (a b : Int) (x : UInt8) : Code × S := stP (ov (ov noQ 10 (some (.str ⟨#[56]⟩))) 24 (some (.str ⟨#[x]⟩))) 13 1 (p13_5 a b)
theorem to13_6_0 (Q : Orc) (a b : Int) (x : UInt8) (N : Code → S → O → Option (AV × O)) (K : Ex → S → O → Option (AV × O)) : evPre cfg (ov (ov Q 10 (some (.str ⟨#[56]⟩))) 24 (some (.str ⟨#[x]⟩))) 13 1 (p13_5 a b).1 (p13_5 a b).2 [] N K = N (p13_6_0 a b x).1 (p13_6_0 a b x).2 [] := by kernel_rfl
theorem end13_6_0 (a b : Int) (x : UInt8) : closed (evCodeF cfg (orcF cfg 398) 13 (p13_6_0 a b x).1 (p13_6_0 a b x).2 [] (kBody cfg 13 0 Tryz.f13)) = some (.str ⟨#[56, 32, x]⟩) := by kernel_rfl
noncomputable def p13_6_1 (a b : Int) (x y : UInt8) : Code × S := stP (ov (ov noQ 10 (some (.str ⟨#[56]⟩))) 24 (some (.str ⟨#[x, y]⟩))) 13 1 (p13_5 a b)
theorem to13_6_1 (Q : Orc) (a b : Int) (x y : UInt8) (N : Code → S → O → Option (AV × O)) (K : Ex → S → O → Option (AV × O)) : evPre cfg (ov (ov Q 10 (some (.str ⟨#[56]⟩))) 24 (some (.str ⟨#[x, y]⟩))) 13 1 (p13_5 a b).1 (p13_5 a b).2 [] N K = N (p13_6_1 a b x y).1 (p13_6_1 a b x y).2 [] := by kernel_rfl
theorem end13_6_1 (a b : Int) (x y : UInt8) : closed (evCodeF cfg (orcF cfg 398) 13 (p13_6_1 a b x y).1 (p13_6_1 a b x y).2 [] (kBody cfg 13 0 Tryz.f13)) = some (.str ⟨#[56, 32, x, y]⟩) := by kernel_rfl
noncomputable def p13_6_2 (a b : Int) (x y z : UInt8) : Code × S := stP (ov (ov noQ 10 (some (.str ⟨#[56]⟩))) 24 (some (.str ⟨#[x, y, z]⟩))) 13 1 (p13_5 a b)
theorem to13_6_2 (Q : Orc) (a b : Int) (x y z : UInt8) (N : Code → S → O → Option (AV × O)) (K : Ex → S → O → Option (AV × O)) : evPre cfg (ov (ov Q 10 (some (.str ⟨#[56]⟩))) 24 (some (.str ⟨#[x, y, z]⟩))) 13 1 (p13_5 a b).1 (p13_5 a b).2 [] N K = N (p13_6_2 a b x y z).1 (p13_6_2 a b x y z).2 [] := by kernel_rfl
theorem end13_6_2 (a b : Int) (x y z : UInt8) : closed (evCodeF cfg (orcF cfg 398) 13 (p13_6_2 a b x y z).1 (p13_6_2 a b x y z).2 [] (kBody cfg 13 0 Tryz.f13)) = some (.str ⟨#[56, 32, x, y, z]⟩) := by kernel_rfl
noncomputable def p13_6_3 (a b : Int) (x y z u : UInt8) : Code × S := stP (ov (ov noQ 10 (some (.str ⟨#[56]⟩))) 24 (some (.str ⟨#[x, y, z, u]⟩))) 13 1 (p13_5 a b)
theorem to13_6_3 (Q : Orc) (a b : Int) (x y z u : UInt8) (N : Code → S → O → Option (AV × O)) (K : Ex → S → O → Option (AV × O)) : evPre cfg (ov (ov Q 10 (some (.str ⟨#[56]⟩))) 24 (some (.str ⟨#[x, y, z, u]⟩))) 13 1 (p13_5 a b).1 (p13_5 a b).2 [] N K = N (p13_6_3 a b x y z u).1 (p13_6_3 a b x y z u).2 [] := by kernel_rfl
theorem end13_6_3 (a b : Int) (x y z u : UInt8) : closed (evCodeF cfg (orcF cfg 398) 13 (p13_6_3 a b x y z u).1 (p13_6_3 a b x y z u).2 [] (kBody cfg 13 0 Tryz.f13)) = some (.str ⟨#[56, 32, x, y, z, u]⟩) := by kernel_rfl
theorem fn13 : cfg.fn 13 = some Tryz.f13 := by kernel_rfl
theorem b13 : Tryz.f13.body = some body13 := by kernel_rfl
theorem told_0 {a b : Int} {x : UInt8} (h24 : (orcF cfg 398).clo 24 [.ag [.int .i64 1, .int .i64 (IntKind.i64.wrap (a - b)), .im []]] = some (.str ⟨#[x]⟩)) : (orcF cfg 399).clo 13 [.str ⟨#[40, 100, 101, 102, 32, 109, 97, 105, 110, 32, 40, 102, 110, 32, 40, 120, 32, 73, 110, 116, 41, 32, 40, 102, 110, 32, 40, 121, 32, 73, 110, 116, 41, 32, 40, 115, 117, 98, 32, 120, 32, 121, 41, 41, 41, 41]⟩, .int .i64 9, .im [.int .i64 a, .int .i64 b]] = some (.str ⟨#[56, 32, x]⟩) := by
  refine clo_of (n := 398) (xs := [.str ⟨#[40, 100, 101, 102, 32, 109, 97, 105, 110, 32, 40, 102, 110, 32, 40, 120, 32, 73, 110, 116, 41, 32, 40, 102, 110, 32, 40, 121, 32, 73, 110, 116, 41, 32, 40, 115, 117, 98, 32, 120, 32, 121, 41, 41, 41, 41]⟩, .int .i64 9, .im [.int .i64 a, .int .i64 b]]) (by kernel_rfl) (by kernel_rfl) ?_
  rw [body_pre fn13 b13 0]
  show closed (evCodeF cfg (orcF cfg 398) 13 (p13_0 a b).1 (p13_0 a b).2 [] (kBody cfg 13 0 Tryz.f13)) = _
  have he := end13_6_0 a b x
  rw [evCodeF_eq] at he ⊢
  rw [← evPre_eq cfg (orcF cfg 398) 13 _ 3 (p13_0 a b).1, to13_3]
  rw [← evPre_eq cfg (orcF cfg 398) 13 _ 1 (p13_3 a b).1, at13_4, drive0, to13_4]
  rw [← evPre_eq cfg (orcF cfg 398) 13 _ 1 (p13_4 a b).1, to13_5]
  rw [← evPre_eq cfg (orcF cfg 398) 13 _ 1 (p13_5 a b).1, at13_6, far8, h24, to13_6_0]
  exact he
theorem told_1 {a b : Int} {x y : UInt8} (h24 : (orcF cfg 398).clo 24 [.ag [.int .i64 1, .int .i64 (IntKind.i64.wrap (a - b)), .im []]] = some (.str ⟨#[x, y]⟩)) : (orcF cfg 399).clo 13 [.str ⟨#[40, 100, 101, 102, 32, 109, 97, 105, 110, 32, 40, 102, 110, 32, 40, 120, 32, 73, 110, 116, 41, 32, 40, 102, 110, 32, 40, 121, 32, 73, 110, 116, 41, 32, 40, 115, 117, 98, 32, 120, 32, 121, 41, 41, 41, 41]⟩, .int .i64 9, .im [.int .i64 a, .int .i64 b]] = some (.str ⟨#[56, 32, x, y]⟩) := by
  refine clo_of (n := 398) (xs := [.str ⟨#[40, 100, 101, 102, 32, 109, 97, 105, 110, 32, 40, 102, 110, 32, 40, 120, 32, 73, 110, 116, 41, 32, 40, 102, 110, 32, 40, 121, 32, 73, 110, 116, 41, 32, 40, 115, 117, 98, 32, 120, 32, 121, 41, 41, 41, 41]⟩, .int .i64 9, .im [.int .i64 a, .int .i64 b]]) (by kernel_rfl) (by kernel_rfl) ?_
  rw [body_pre fn13 b13 0]
  show closed (evCodeF cfg (orcF cfg 398) 13 (p13_0 a b).1 (p13_0 a b).2 [] (kBody cfg 13 0 Tryz.f13)) = _
  have he := end13_6_1 a b x y
  rw [evCodeF_eq] at he ⊢
  rw [← evPre_eq cfg (orcF cfg 398) 13 _ 3 (p13_0 a b).1, to13_3]
  rw [← evPre_eq cfg (orcF cfg 398) 13 _ 1 (p13_3 a b).1, at13_4, drive0, to13_4]
  rw [← evPre_eq cfg (orcF cfg 398) 13 _ 1 (p13_4 a b).1, to13_5]
  rw [← evPre_eq cfg (orcF cfg 398) 13 _ 1 (p13_5 a b).1, at13_6, far8, h24, to13_6_1]
  exact he
theorem told_2 {a b : Int} {x y z : UInt8} (h24 : (orcF cfg 398).clo 24 [.ag [.int .i64 1, .int .i64 (IntKind.i64.wrap (a - b)), .im []]] = some (.str ⟨#[x, y, z]⟩)) : (orcF cfg 399).clo 13 [.str ⟨#[40, 100, 101, 102, 32, 109, 97, 105, 110, 32, 40, 102, 110, 32, 40, 120, 32, 73, 110, 116, 41, 32, 40, 102, 110, 32, 40, 121, 32, 73, 110, 116, 41, 32, 40, 115, 117, 98, 32, 120, 32, 121, 41, 41, 41, 41]⟩, .int .i64 9, .im [.int .i64 a, .int .i64 b]] = some (.str ⟨#[56, 32, x, y, z]⟩) := by
  refine clo_of (n := 398) (xs := [.str ⟨#[40, 100, 101, 102, 32, 109, 97, 105, 110, 32, 40, 102, 110, 32, 40, 120, 32, 73, 110, 116, 41, 32, 40, 102, 110, 32, 40, 121, 32, 73, 110, 116, 41, 32, 40, 115, 117, 98, 32, 120, 32, 121, 41, 41, 41, 41]⟩, .int .i64 9, .im [.int .i64 a, .int .i64 b]]) (by kernel_rfl) (by kernel_rfl) ?_
  rw [body_pre fn13 b13 0]
  show closed (evCodeF cfg (orcF cfg 398) 13 (p13_0 a b).1 (p13_0 a b).2 [] (kBody cfg 13 0 Tryz.f13)) = _
  have he := end13_6_2 a b x y z
  rw [evCodeF_eq] at he ⊢
  rw [← evPre_eq cfg (orcF cfg 398) 13 _ 3 (p13_0 a b).1, to13_3]
  rw [← evPre_eq cfg (orcF cfg 398) 13 _ 1 (p13_3 a b).1, at13_4, drive0, to13_4]
  rw [← evPre_eq cfg (orcF cfg 398) 13 _ 1 (p13_4 a b).1, to13_5]
  rw [← evPre_eq cfg (orcF cfg 398) 13 _ 1 (p13_5 a b).1, at13_6, far8, h24, to13_6_2]
  exact he
theorem told_3 {a b : Int} {x y z u : UInt8} (h24 : (orcF cfg 398).clo 24 [.ag [.int .i64 1, .int .i64 (IntKind.i64.wrap (a - b)), .im []]] = some (.str ⟨#[x, y, z, u]⟩)) : (orcF cfg 399).clo 13 [.str ⟨#[40, 100, 101, 102, 32, 109, 97, 105, 110, 32, 40, 102, 110, 32, 40, 120, 32, 73, 110, 116, 41, 32, 40, 102, 110, 32, 40, 121, 32, 73, 110, 116, 41, 32, 40, 115, 117, 98, 32, 120, 32, 121, 41, 41, 41, 41]⟩, .int .i64 9, .im [.int .i64 a, .int .i64 b]] = some (.str ⟨#[56, 32, x, y, z, u]⟩) := by
  refine clo_of (n := 398) (xs := [.str ⟨#[40, 100, 101, 102, 32, 109, 97, 105, 110, 32, 40, 102, 110, 32, 40, 120, 32, 73, 110, 116, 41, 32, 40, 102, 110, 32, 40, 121, 32, 73, 110, 116, 41, 32, 40, 115, 117, 98, 32, 120, 32, 121, 41, 41, 41, 41]⟩, .int .i64 9, .im [.int .i64 a, .int .i64 b]]) (by kernel_rfl) (by kernel_rfl) ?_
  rw [body_pre fn13 b13 0]
  show closed (evCodeF cfg (orcF cfg 398) 13 (p13_0 a b).1 (p13_0 a b).2 [] (kBody cfg 13 0 Tryz.f13)) = _
  have he := end13_6_3 a b x y z u
  rw [evCodeF_eq] at he ⊢
  rw [← evPre_eq cfg (orcF cfg 398) 13 _ 3 (p13_0 a b).1, to13_3]
  rw [← evPre_eq cfg (orcF cfg 398) 13 _ 1 (p13_3 a b).1, at13_4, drive0, to13_4]
  rw [← evPre_eq cfg (orcF cfg 398) 13 _ 1 (p13_4 a b).1, to13_5]
  rw [← evPre_eq cfg (orcF cfg 398) 13 _ 1 (p13_5 a b).1, at13_6, far8, h24, to13_6_3]
  exact he
end Go.Proofs.YtndojngcaohgnaaGreatDoor
