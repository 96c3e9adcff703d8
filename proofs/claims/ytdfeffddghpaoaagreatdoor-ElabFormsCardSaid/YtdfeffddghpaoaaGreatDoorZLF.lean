/- ElabForms: the function, for every number, by what is told of the forms. -/
import Derived.Test.YtdfeffddghpaoaaGreatDoorZTFA
import Derived.Test.YtdfeffddghpaoaaGreatDoorZTFB
import Derived.Test.YtdfeffddghpaoaaGreatDoorZTFC
set_option linter.unusedVariables false
set_option linter.unusedSectionVars false
set_option linter.unusedSimpArgs false
set_option linter.unnecessarySimpa false
namespace Go.Proofs.YtdfeffddghpaoaaGreatDoor
open Go Go.Ev
noncomputable def body4 : Code := (Tryz.f4.body).getD .skip
noncomputable def p4_0 (n : Int) : Code × S := (body4, ⟨inArgsF 0 [.c (.int .i64 n)], fun _ => none, 0⟩)
noncomputable def p4_2 (n : Int) : Code × S := stP (ov noQ (some (.bool true)) none none) 4 2 (p4_0 n)
noncomputable def p4_5 (n : Int) : Code × S := stP noQ 4 2 (p4_2 n)
noncomputable def p4_6 (n k : Int) : Code × S := stP (ov noQ none (some (.int .i64 k)) none) 4 1 (p4_5 n)
section
variable (Q : Orc) (n k : Int) (N : Code → S → O → Option (AV × O)) (K : Ex → S → O → Option (AV × O))
theorem at4_2 : evPre cfg Q 4 2 (p4_0 n).1 (p4_0 n).2 [] N K = evPre cfg (ov Q (Q.clo 7 []) none none) 4 2 (p4_0 n).1 (p4_0 n).2 [] N K := by kernel_rfl
theorem to4_2 : evPre cfg (ov Q (some (.bool true)) none none) 4 2 (p4_0 n).1 (p4_0 n).2 [] N K = N (p4_2 n).1 (p4_2 n).2 [] := by kernel_rfl
theorem to4_5 : evPre cfg Q 4 2 (p4_2 n).1 (p4_2 n).2 [] N K = N (p4_5 n).1 (p4_5 n).2 [] := by kernel_rfl
theorem at4_6 : evPre cfg Q 4 1 (p4_5 n).1 (p4_5 n).2 [] N K = evPre cfg (ov Q none (Q.clo 8 [.int .i64 n, .int .i64 36]) none) 4 1 (p4_5 n).1 (p4_5 n).2 [] N K := by kernel_rfl
theorem to4_6 : evPre cfg (ov Q none (some (.int .i64 k)) none) 4 1 (p4_5 n).1 (p4_5 n).2 [] N K = N (p4_6 n k).1 (p4_6 n k).2 [] := by kernel_rfl
/-- the function, from its seventh piece on -/
theorem from4 (h7 : Q.clo 7 [] = some (.bool true)) (h8 : Q.clo 8 [.int .i64 n, .int .i64 36] = some (.int .i64 k)) : evCode cfg Q 4 (p4_0 n).1 (p4_0 n).2 [] K = evCode cfg Q 4 (p4_6 n k).1 (p4_6 n k).2 [] K := by
  rw [← evPre_eq cfg Q 4 K 2 (p4_0 n).1, at4_2, h7, to4_2]
  rw [← evPre_eq cfg Q 4 K 2 (p4_2 n).1, to4_5]
  rw [← evPre_eq cfg Q 4 K 1 (p4_5 n).1, at4_6, h8, to4_6]
end
/-- what is left, by what is told of a form -/
noncomputable def last4 (Q : Orc) (n k : Int) : Option CV := closed (evCodeF cfg Q 4 (p4_6 n k).1 (p4_6 n k).2 [] (kBody cfg 4 0 Tryz.f4))
theorem atF0 (Q : Orc) (n : Int) : last4 Q n 0 = last4 (ov Q none none (Q.clo 9 [.str ⟨#[40, 102, 110, 32, 40, 97, 32, 78, 97, 116, 41, 32, 97, 41]⟩])) n 0 := by kernel_rfl
theorem toF0 (Q : Orc) (n : Int) : last4 (ov Q none none (some (.str ⟨#[40, 52, 32, 49, 48, 32, 118, 48, 41, 32, 49, 32, 40, 51, 32, 49, 48, 32, 49, 48, 41]⟩))) n 0 = some (.bool true) := by kernel_rfl
theorem atF1 (Q : Orc) (n : Int) : last4 Q n 1 = last4 (ov Q none none (Q.clo 9 [.str ⟨#[40, 102, 110, 32, 40, 97, 32, 73, 110, 116, 41, 32, 97, 41]⟩])) n 1 := by kernel_rfl
theorem toF1 (Q : Orc) (n : Int) : last4 (ov Q none none (some (.str ⟨#[40, 50, 48, 32, 49, 53, 32, 118, 48, 41, 32, 48, 32, 40, 49, 54, 32, 49, 53, 32, 49, 53, 41]⟩))) n 1 = some (.bool true) := by kernel_rfl
theorem atF2 (Q : Orc) (n : Int) : last4 Q n 2 = last4 (ov Q none none (Q.clo 9 [.str ⟨#[40, 102, 110, 32, 40, 97, 32, 73, 110, 116, 41, 32, 99, 41]⟩])) n 2 := by kernel_rfl
theorem toF2 (Q : Orc) (n : Int) : last4 (ov Q none none (some (.str ⟨#[40, 50, 48, 32, 49, 53, 32, 40, 51, 48, 32, 118, 52, 41, 41, 32, 48, 32, 40, 49, 54, 32, 49, 53, 32, 49, 53, 41]⟩))) n 2 = some (.bool true) := by kernel_rfl
theorem atF3 (Q : Orc) (n : Int) : last4 Q n 3 = last4 (ov Q none none (Q.clo 9 [.str ⟨#[40, 102, 110, 32, 40, 97, 32, 78, 97, 116, 41, 32, 120, 41]⟩])) n 3 := by kernel_rfl
theorem toF3 (Q : Orc) (n : Int) : last4 (ov Q none none (some (.str ⟨#[115, 116, 97, 103, 101]⟩))) n 3 = some (.bool true) := by kernel_rfl
theorem atF4 (Q : Orc) (n : Int) : last4 Q n 4 = last4 (ov Q none none (Q.clo 9 [.str ⟨#[40, 102, 110, 32, 97, 32, 97, 41]⟩])) n 4 := by kernel_rfl
theorem toF4 (Q : Orc) (n : Int) : last4 (ov Q none none (some (.str ⟨#[103, 117, 101, 115, 115]⟩))) n 4 = some (.bool true) := by kernel_rfl
theorem atF5 (Q : Orc) (n : Int) : last4 Q n 5 = last4 (ov Q none none (Q.clo 9 [.str ⟨#[40, 102, 110, 32, 40, 97, 32, 110, 41, 32, 97, 41]⟩])) n 5 := by kernel_rfl
theorem toF5 (Q : Orc) (n : Int) : last4 (ov Q none none (some (.str ⟨#[115, 104, 97, 112, 101]⟩))) n 5 = some (.bool true) := by kernel_rfl
theorem atF6 (Q : Orc) (n : Int) : last4 Q n 6 = last4 (ov Q none none (Q.clo 9 [.str ⟨#[40, 102, 110, 32, 40, 97, 32, 120, 41, 32, 97, 41]⟩])) n 6 := by kernel_rfl
theorem toF6 (Q : Orc) (n : Int) : last4 (ov Q none none (some (.str ⟨#[115, 116, 97, 103, 101]⟩))) n 6 = some (.bool true) := by kernel_rfl
theorem atF7 (Q : Orc) (n : Int) : last4 Q n 7 = last4 (ov Q none none (Q.clo 9 [.str ⟨#[40, 112, 105, 32, 40, 97, 32, 78, 97, 116, 41, 32, 85, 48, 41]⟩])) n 7 := by kernel_rfl
theorem toF7 (Q : Orc) (n : Int) : last4 (ov Q none none (some (.str ⟨#[40, 51, 32, 49, 48, 32, 85, 48, 41, 32, 49, 32, 85, 49]⟩))) n 7 = some (.bool true) := by kernel_rfl
theorem atF8 (Q : Orc) (n : Int) : last4 Q n 8 = last4 (ov Q none none (Q.clo 9 [.str ⟨#[40, 115, 105, 103, 32, 40, 97, 32, 85, 48, 41, 32, 97, 41]⟩])) n 8 := by kernel_rfl
theorem toF8 (Q : Orc) (n : Int) : last4 (ov Q none none (some (.str ⟨#[40, 54, 32, 85, 48, 32, 118, 48, 41, 32, 49, 32, 85, 49]⟩))) n 8 = some (.bool true) := by kernel_rfl
theorem atF9 (Q : Orc) (n : Int) : last4 Q n 9 = last4 (ov Q none none (Q.clo 9 [.str ⟨#[40, 112, 105, 32, 40, 97, 32, 110, 41, 32, 78, 97, 116, 41]⟩])) n 9 := by kernel_rfl
theorem toF9 (Q : Orc) (n : Int) : last4 (ov Q none none (some (.str ⟨#[115, 104, 97, 112, 101]⟩))) n 9 = some (.bool true) := by kernel_rfl
theorem atF10 (Q : Orc) (n : Int) : last4 Q n 10 = last4 (ov Q none none (Q.clo 9 [.str ⟨#[40, 45, 62, 32, 78, 97, 116, 32, 85, 48, 41]⟩])) n 10 := by kernel_rfl
theorem toF10 (Q : Orc) (n : Int) : last4 (ov Q none none (some (.str ⟨#[40, 51, 32, 49, 48, 32, 85, 48, 41, 32, 49, 32, 85, 49]⟩))) n 10 = some (.bool true) := by kernel_rfl
theorem atF11 (Q : Orc) (n : Int) : last4 Q n 11 = last4 (ov Q none none (Q.clo 9 [.str ⟨#[40, 45, 62, 32, 73, 110, 116, 32, 73, 110, 116, 41]⟩])) n 11 := by kernel_rfl
theorem toF11 (Q : Orc) (n : Int) : last4 (ov Q none none (some (.str ⟨#[40, 49, 54, 32, 49, 53, 32, 49, 53, 41, 32, 49, 32, 49, 52]⟩))) n 11 = some (.bool true) := by kernel_rfl
theorem atF12 (Q : Orc) (n : Int) : last4 Q n 12 = last4 (ov Q none none (Q.clo 9 [.str ⟨#[40, 42, 32, 78, 97, 116, 32, 78, 97, 116, 41]⟩])) n 12 := by kernel_rfl
theorem toF12 (Q : Orc) (n : Int) : last4 (ov Q none none (some (.str ⟨#[40, 54, 32, 49, 48, 32, 49, 48, 41, 32, 49, 32, 85, 48]⟩))) n 12 = some (.bool true) := by kernel_rfl
theorem atF13 (Q : Orc) (n : Int) : last4 Q n 13 = last4 (ov Q none none (Q.clo 9 [.str ⟨#[40, 42, 32, 73, 110, 116, 32, 78, 97, 116, 41]⟩])) n 13 := by kernel_rfl
theorem toF13 (Q : Orc) (n : Int) : last4 (ov Q none none (some (.str ⟨#[116, 121, 112, 101]⟩))) n 13 = some (.bool true) := by kernel_rfl
theorem atF14 (Q : Orc) (n : Int) : last4 Q n 14 = last4 (ov Q none none (Q.clo 9 [.str ⟨#[40, 45, 62, 32, 78, 97, 116, 32, 73, 110, 116, 41]⟩])) n 14 := by kernel_rfl
theorem toF14 (Q : Orc) (n : Int) : last4 (ov Q none none (some (.str ⟨#[115, 104, 97, 112, 101]⟩))) n 14 = some (.bool true) := by kernel_rfl
theorem atF15 (Q : Orc) (n : Int) : last4 Q n 15 = last4 (ov Q none none (Q.clo 9 [.str ⟨#[40, 112, 97, 105, 114, 32, 120, 32, 49, 41]⟩])) n 15 := by kernel_rfl
theorem toF15 (Q : Orc) (n : Int) : last4 (ov Q none none (some (.str ⟨#[40, 50, 50, 32, 118, 49, 32, 105, 49, 41, 32, 48, 32, 40, 49, 55, 32, 49, 53, 32, 49, 53, 41]⟩))) n 15 = some (.bool true) := by kernel_rfl
theorem atF16 (Q : Orc) (n : Int) : last4 Q n 16 = last4 (ov Q none none (Q.clo 9 [.str ⟨#[40, 112, 97, 105, 114, 32, 49, 32, 99, 41]⟩])) n 16 := by kernel_rfl
theorem toF16 (Q : Orc) (n : Int) : last4 (ov Q none none (some (.str ⟨#[40, 50, 50, 32, 105, 49, 32, 40, 51, 48, 32, 118, 51, 41, 41, 32, 48, 32, 40, 49, 55, 32, 49, 53, 32, 49, 53, 41]⟩))) n 16 = some (.bool true) := by kernel_rfl
theorem atF17 (Q : Orc) (n : Int) : last4 Q n 17 = last4 (ov Q none none (Q.clo 9 [.str ⟨#[40, 112, 97, 105, 114, 32, 110, 32, 49, 41]⟩])) n 17 := by kernel_rfl
theorem toF17 (Q : Orc) (n : Int) : last4 (ov Q none none (some (.str ⟨#[103, 117, 101, 115, 115]⟩))) n 17 = some (.bool true) := by kernel_rfl
theorem atF18 (Q : Orc) (n : Int) : last4 Q n 18 = last4 (ov Q none none (Q.clo 9 [.str ⟨#[40, 102, 115, 116, 32, 40, 112, 97, 105, 114, 32, 49, 32, 50, 41, 41]⟩])) n 18 := by kernel_rfl
theorem toF18 (Q : Orc) (n : Int) : last4 (ov Q none none (some (.str ⟨#[40, 50, 51, 32, 40, 50, 50, 32, 105, 49, 32, 105, 50, 41, 41, 32, 48, 32, 49, 53]⟩))) n 18 = some (.bool true) := by kernel_rfl
theorem atF19 (Q : Orc) (n : Int) : last4 Q n 19 = last4 (ov Q none none (Q.clo 9 [.str ⟨#[40, 115, 110, 100, 32, 120, 41]⟩])) n 19 := by kernel_rfl
theorem toF19 (Q : Orc) (n : Int) : last4 (ov Q none none (some (.str ⟨#[115, 104, 97, 112, 101]⟩))) n 19 = some (.bool true) := by kernel_rfl
theorem atF20 (Q : Orc) (n : Int) : last4 Q n 20 = last4 (ov Q none none (Q.clo 9 [.str ⟨#[40, 102, 115, 116, 32, 110, 41]⟩])) n 20 := by kernel_rfl
theorem toF20 (Q : Orc) (n : Int) : last4 (ov Q none none (some (.str ⟨#[115, 116, 97, 103, 101]⟩))) n 20 = some (.bool true) := by kernel_rfl
theorem atF21 (Q : Orc) (n : Int) : last4 Q n 21 = last4 (ov Q none none (Q.clo 9 [.str ⟨#[40, 115, 117, 99, 32, 110, 41]⟩])) n 21 := by kernel_rfl
theorem toF21 (Q : Orc) (n : Int) : last4 (ov Q none none (some (.str ⟨#[40, 49, 50, 32, 118, 53, 41, 32, 49, 32, 49, 48]⟩))) n 21 = some (.bool true) := by kernel_rfl
theorem atF22 (Q : Orc) (n : Int) : last4 Q n 22 = last4 (ov Q none none (Q.clo 9 [.str ⟨#[40, 115, 117, 99, 32, 120, 41]⟩])) n 22 := by kernel_rfl
theorem toF22 (Q : Orc) (n : Int) : last4 (ov Q none none (some (.str ⟨#[115, 116, 97, 103, 101]⟩))) n 22 = some (.bool true) := by kernel_rfl
theorem atF23 (Q : Orc) (n : Int) : last4 Q n 23 = last4 (ov Q none none (Q.clo 9 [.str ⟨#[40, 108, 105, 102, 116, 32, 73, 110, 116, 41]⟩])) n 23 := by kernel_rfl
theorem toF23 (Q : Orc) (n : Int) : last4 (ov Q none none (some (.str ⟨#[40, 49, 56, 32, 49, 53, 41, 32, 49, 32, 85, 48]⟩))) n 23 = some (.bool true) := by kernel_rfl
theorem atF24 (Q : Orc) (n : Int) : last4 Q n 24 = last4 (ov Q none none (Q.clo 9 [.str ⟨#[40, 108, 105, 102, 116, 32, 78, 97, 116, 41]⟩])) n 24 := by kernel_rfl
theorem toF24 (Q : Orc) (n : Int) : last4 (ov Q none none (some (.str ⟨#[116, 121, 112, 101]⟩))) n 24 = some (.bool true) := by kernel_rfl
theorem atF25 (Q : Orc) (n : Int) : last4 Q n 25 = last4 (ov Q none none (Q.clo 9 [.str ⟨#[40, 113, 117, 111, 116, 101, 32, 120, 41]⟩])) n 25 := by kernel_rfl
theorem toF25 (Q : Orc) (n : Int) : last4 (ov Q none none (some (.str ⟨#[40, 49, 57, 32, 118, 49, 41, 32, 49, 32, 40, 49, 56, 32, 49, 53, 41]⟩))) n 25 = some (.bool true) := by kernel_rfl
theorem atF26 (Q : Orc) (n : Int) : last4 Q n 26 = last4 (ov Q none none (Q.clo 9 [.str ⟨#[40, 113, 117, 111, 116, 101, 32, 99, 41]⟩])) n 26 := by kernel_rfl
theorem toF26 (Q : Orc) (n : Int) : last4 (ov Q none none (some (.str ⟨#[40, 49, 57, 32, 40, 51, 48, 32, 118, 51, 41, 41, 32, 49, 32, 40, 49, 56, 32, 49, 53, 41]⟩))) n 26 = some (.bool true) := by kernel_rfl
theorem atF27 (Q : Orc) (n : Int) : last4 Q n 27 = last4 (ov Q none none (Q.clo 9 [.str ⟨#[40, 113, 117, 111, 116, 101, 32, 110, 41]⟩])) n 27 := by kernel_rfl
theorem toF27 (Q : Orc) (n : Int) : last4 (ov Q none none (some (.str ⟨#[115, 116, 97, 103, 101]⟩))) n 27 = some (.bool true) := by kernel_rfl
theorem atF28 (Q : Orc) (n : Int) : last4 Q n 28 = last4 (ov Q none none (Q.clo 9 [.str ⟨#[40, 115, 112, 108, 105, 99, 101, 32, 99, 41]⟩])) n 28 := by kernel_rfl
theorem toF28 (Q : Orc) (n : Int) : last4 (ov Q none none (some (.str ⟨#[40, 51, 48, 32, 118, 51, 41, 32, 48, 32, 49, 53]⟩))) n 28 = some (.bool true) := by kernel_rfl
theorem atF29 (Q : Orc) (n : Int) : last4 Q n 29 = last4 (ov Q none none (Q.clo 9 [.str ⟨#[40, 115, 112, 108, 105, 99, 101, 32, 120, 41]⟩])) n 29 := by kernel_rfl
theorem toF29 (Q : Orc) (n : Int) : last4 (ov Q none none (some (.str ⟨#[115, 116, 97, 103, 101]⟩))) n 29 = some (.bool true) := by kernel_rfl
theorem atF30 (Q : Orc) (n : Int) : last4 Q n 30 = last4 (ov Q none none (Q.clo 9 [.str ⟨#[40, 115, 112, 108, 105, 99, 101, 32, 110, 41]⟩])) n 30 := by kernel_rfl
theorem toF30 (Q : Orc) (n : Int) : last4 (ov Q none none (some (.str ⟨#[115, 116, 97, 103, 101]⟩))) n 30 = some (.bool true) := by kernel_rfl
theorem atF31 (Q : Orc) (n : Int) : last4 Q n 31 = last4 (ov Q none none (Q.clo 9 [.str ⟨#[40, 97, 100, 100, 32, 99, 32, 120, 41]⟩])) n 31 := by kernel_rfl
theorem toF31 (Q : Orc) (n : Int) : last4 (ov Q none none (some (.str ⟨#[40, 50, 54, 47, 48, 32, 40, 51, 48, 32, 118, 51, 41, 32, 118, 49, 41, 32, 48, 32, 49, 53]⟩))) n 31 = some (.bool true) := by kernel_rfl
theorem atF32 (Q : Orc) (n : Int) : last4 Q n 32 = last4 (ov Q none none (Q.clo 9 [.str ⟨#[40, 108, 101, 115, 115, 32, 110, 32, 49, 41]⟩])) n 32 := by kernel_rfl
theorem toF32 (Q : Orc) (n : Int) : last4 (ov Q none none (some (.str ⟨#[115, 116, 97, 103, 101]⟩))) n 32 = some (.bool true) := by kernel_rfl
theorem atF33 (Q : Orc) (n : Int) : last4 Q n 33 = last4 (ov Q none none (Q.clo 9 [.str ⟨#[40, 105, 102, 32, 120, 32, 99, 32, 50, 41]⟩])) n 33 := by kernel_rfl
theorem toF33 (Q : Orc) (n : Int) : last4 (ov Q none none (some (.str ⟨#[40, 50, 55, 32, 118, 49, 32, 40, 51, 48, 32, 118, 51, 41, 32, 105, 50, 41, 32, 48, 32, 49, 53]⟩))) n 33 = some (.bool true) := by kernel_rfl
theorem atF34 (Q : Orc) (n : Int) : last4 Q n 34 = last4 (ov Q none none (Q.clo 9 [.str ⟨#[40, 105, 102, 32, 120, 32, 110, 32, 50, 41]⟩])) n 34 := by kernel_rfl
theorem toF34 (Q : Orc) (n : Int) : last4 (ov Q none none (some (.str ⟨#[115, 116, 97, 103, 101]⟩))) n 34 = some (.bool true) := by kernel_rfl
theorem atF35 (Q : Orc) (n : Int) : last4 Q n 35 = last4 (ov Q none none (Q.clo 9 [.str ⟨#[40, 105, 102, 32, 104, 32, 49, 32, 50, 41]⟩])) n 35 := by kernel_rfl
theorem toF35 (Q : Orc) (n : Int) : last4 (ov Q none none (some (.str ⟨#[116, 121, 112, 101]⟩))) n 35 = some (.bool true) := by kernel_rfl
theorem all4 (n : Int) : ∀ k : Fin 36, last4 (orcF cfg 399) n (k.val : Int) = some (.bool true) := fun k => match k with
  | ⟨0, _⟩ => ((atF0 (orcF cfg 399) n).trans (congrArg (fun x => last4 (ov (orcF cfg 399) none none x) n 0) toldF0)).trans (toF0 _ n)
  | ⟨1, _⟩ => ((atF1 (orcF cfg 399) n).trans (congrArg (fun x => last4 (ov (orcF cfg 399) none none x) n 1) toldF1)).trans (toF1 _ n)
  | ⟨2, _⟩ => ((atF2 (orcF cfg 399) n).trans (congrArg (fun x => last4 (ov (orcF cfg 399) none none x) n 2) toldF2)).trans (toF2 _ n)
  | ⟨3, _⟩ => ((atF3 (orcF cfg 399) n).trans (congrArg (fun x => last4 (ov (orcF cfg 399) none none x) n 3) toldF3)).trans (toF3 _ n)
  | ⟨4, _⟩ => ((atF4 (orcF cfg 399) n).trans (congrArg (fun x => last4 (ov (orcF cfg 399) none none x) n 4) toldF4)).trans (toF4 _ n)
  | ⟨5, _⟩ => ((atF5 (orcF cfg 399) n).trans (congrArg (fun x => last4 (ov (orcF cfg 399) none none x) n 5) toldF5)).trans (toF5 _ n)
  | ⟨6, _⟩ => ((atF6 (orcF cfg 399) n).trans (congrArg (fun x => last4 (ov (orcF cfg 399) none none x) n 6) toldF6)).trans (toF6 _ n)
  | ⟨7, _⟩ => ((atF7 (orcF cfg 399) n).trans (congrArg (fun x => last4 (ov (orcF cfg 399) none none x) n 7) toldF7)).trans (toF7 _ n)
  | ⟨8, _⟩ => ((atF8 (orcF cfg 399) n).trans (congrArg (fun x => last4 (ov (orcF cfg 399) none none x) n 8) toldF8)).trans (toF8 _ n)
  | ⟨9, _⟩ => ((atF9 (orcF cfg 399) n).trans (congrArg (fun x => last4 (ov (orcF cfg 399) none none x) n 9) toldF9)).trans (toF9 _ n)
  | ⟨10, _⟩ => ((atF10 (orcF cfg 399) n).trans (congrArg (fun x => last4 (ov (orcF cfg 399) none none x) n 10) toldF10)).trans (toF10 _ n)
  | ⟨11, _⟩ => ((atF11 (orcF cfg 399) n).trans (congrArg (fun x => last4 (ov (orcF cfg 399) none none x) n 11) toldF11)).trans (toF11 _ n)
  | ⟨12, _⟩ => ((atF12 (orcF cfg 399) n).trans (congrArg (fun x => last4 (ov (orcF cfg 399) none none x) n 12) toldF12)).trans (toF12 _ n)
  | ⟨13, _⟩ => ((atF13 (orcF cfg 399) n).trans (congrArg (fun x => last4 (ov (orcF cfg 399) none none x) n 13) toldF13)).trans (toF13 _ n)
  | ⟨14, _⟩ => ((atF14 (orcF cfg 399) n).trans (congrArg (fun x => last4 (ov (orcF cfg 399) none none x) n 14) toldF14)).trans (toF14 _ n)
  | ⟨15, _⟩ => ((atF15 (orcF cfg 399) n).trans (congrArg (fun x => last4 (ov (orcF cfg 399) none none x) n 15) toldF15)).trans (toF15 _ n)
  | ⟨16, _⟩ => ((atF16 (orcF cfg 399) n).trans (congrArg (fun x => last4 (ov (orcF cfg 399) none none x) n 16) toldF16)).trans (toF16 _ n)
  | ⟨17, _⟩ => ((atF17 (orcF cfg 399) n).trans (congrArg (fun x => last4 (ov (orcF cfg 399) none none x) n 17) toldF17)).trans (toF17 _ n)
  | ⟨18, _⟩ => ((atF18 (orcF cfg 399) n).trans (congrArg (fun x => last4 (ov (orcF cfg 399) none none x) n 18) toldF18)).trans (toF18 _ n)
  | ⟨19, _⟩ => ((atF19 (orcF cfg 399) n).trans (congrArg (fun x => last4 (ov (orcF cfg 399) none none x) n 19) toldF19)).trans (toF19 _ n)
  | ⟨20, _⟩ => ((atF20 (orcF cfg 399) n).trans (congrArg (fun x => last4 (ov (orcF cfg 399) none none x) n 20) toldF20)).trans (toF20 _ n)
  | ⟨21, _⟩ => ((atF21 (orcF cfg 399) n).trans (congrArg (fun x => last4 (ov (orcF cfg 399) none none x) n 21) toldF21)).trans (toF21 _ n)
  | ⟨22, _⟩ => ((atF22 (orcF cfg 399) n).trans (congrArg (fun x => last4 (ov (orcF cfg 399) none none x) n 22) toldF22)).trans (toF22 _ n)
  | ⟨23, _⟩ => ((atF23 (orcF cfg 399) n).trans (congrArg (fun x => last4 (ov (orcF cfg 399) none none x) n 23) toldF23)).trans (toF23 _ n)
  | ⟨24, _⟩ => ((atF24 (orcF cfg 399) n).trans (congrArg (fun x => last4 (ov (orcF cfg 399) none none x) n 24) toldF24)).trans (toF24 _ n)
  | ⟨25, _⟩ => ((atF25 (orcF cfg 399) n).trans (congrArg (fun x => last4 (ov (orcF cfg 399) none none x) n 25) toldF25)).trans (toF25 _ n)
  | ⟨26, _⟩ => ((atF26 (orcF cfg 399) n).trans (congrArg (fun x => last4 (ov (orcF cfg 399) none none x) n 26) toldF26)).trans (toF26 _ n)
  | ⟨27, _⟩ => ((atF27 (orcF cfg 399) n).trans (congrArg (fun x => last4 (ov (orcF cfg 399) none none x) n 27) toldF27)).trans (toF27 _ n)
  | ⟨28, _⟩ => ((atF28 (orcF cfg 399) n).trans (congrArg (fun x => last4 (ov (orcF cfg 399) none none x) n 28) toldF28)).trans (toF28 _ n)
  | ⟨29, _⟩ => ((atF29 (orcF cfg 399) n).trans (congrArg (fun x => last4 (ov (orcF cfg 399) none none x) n 29) toldF29)).trans (toF29 _ n)
  | ⟨30, _⟩ => ((atF30 (orcF cfg 399) n).trans (congrArg (fun x => last4 (ov (orcF cfg 399) none none x) n 30) toldF30)).trans (toF30 _ n)
  | ⟨31, _⟩ => ((atF31 (orcF cfg 399) n).trans (congrArg (fun x => last4 (ov (orcF cfg 399) none none x) n 31) toldF31)).trans (toF31 _ n)
  | ⟨32, _⟩ => ((atF32 (orcF cfg 399) n).trans (congrArg (fun x => last4 (ov (orcF cfg 399) none none x) n 32) toldF32)).trans (toF32 _ n)
  | ⟨33, _⟩ => ((atF33 (orcF cfg 399) n).trans (congrArg (fun x => last4 (ov (orcF cfg 399) none none x) n 33) toldF33)).trans (toF33 _ n)
  | ⟨34, _⟩ => ((atF34 (orcF cfg 399) n).trans (congrArg (fun x => last4 (ov (orcF cfg 399) none none x) n 34) toldF34)).trans (toF34 _ n)
  | ⟨35, _⟩ => ((atF35 (orcF cfg 399) n).trans (congrArg (fun x => last4 (ov (orcF cfg 399) none none x) n 35) toldF35)).trans (toF35 _ n)
  | ⟨n + 36, h⟩ => absurd h (by omega)
theorem fn4 : cfg.fn 4 = some Tryz.f4 := by kernel_rfl
theorem b4 : Tryz.f4.body = some body4 := by kernel_rfl
theorem known4 : (orcF cfg 399).clo 7 [] = some (.bool true) := by kernel_rfl
theorem clo4 (n : Int) : CloC Tryz.prog 4 [.int .i64 n] (.bool true) := by
  obtain ⟨k, hk⟩ := within_is (orcF cfg 398) n 36 (by omega) (by omega)
  have hk := clo_of (xs := [.int .i64 n, .int .i64 36]) (by kernel_rfl) (by kernel_rfl) hk
  refine clo1 (n := 400) (clo_of (by kernel_rfl) (by kernel_rfl) ?_)
  rw [body_pre fn4 b4 0]
  refine Eq.trans (congrArg closed (?_ : _ = evCodeF cfg (orcF cfg 399) 4 (p4_6 n (k.val : Int)).1 (p4_6 n (k.val : Int)).2 [] (kBody cfg 4 0 Tryz.f4))) (all4 n k)
  show evCodeF cfg (orcF cfg 399) 4 (p4_0 n).1 (p4_0 n).2 [] (kBody cfg 4 0 Tryz.f4) = _
  rw [evCodeF_eq, evCodeF_eq]
  exact from4 _ _ _ _ known4 hk
end Go.Proofs.YtdfeffddghpaoaaGreatDoor
