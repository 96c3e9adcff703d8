/- ElabKnown: the function, for every number, by what is told of the forms. -/
import Derived.Test.YtdfeffddghpaoaaGreatDoorZTKA
import Derived.Test.YtdfeffddghpaoaaGreatDoorZTKB
import Derived.Test.YtdfeffddghpaoaaGreatDoorZTKC
set_option linter.unusedVariables false
set_option linter.unusedSectionVars false
set_option linter.unusedSimpArgs false
set_option linter.unnecessarySimpa false
namespace Go.Proofs.YtdfeffddghpaoaaGreatDoor
open Go Go.Ev
noncomputable def body3 : Code := (Tryz.f3.body).getD .skip
noncomputable def p3_0 (n : Int) : Code × S := (body3, ⟨inArgsF 0 [.c (.int .i64 n)], fun _ => none, 0⟩)
noncomputable def p3_2 (n : Int) : Code × S := stP (ov noQ (some (.bool true)) none none) 3 2 (p3_0 n)
noncomputable def p3_5 (n : Int) : Code × S := stP noQ 3 2 (p3_2 n)
noncomputable def p3_6 (n k : Int) : Code × S := stP (ov noQ none (some (.int .i64 k)) none) 3 1 (p3_5 n)
section
variable (Q : Orc) (n k : Int) (N : Code → S → O → Option (AV × O)) (K : Ex → S → O → Option (AV × O))
theorem at3_2 : evPre cfg Q 3 2 (p3_0 n).1 (p3_0 n).2 [] N K = evPre cfg (ov Q (Q.clo 7 []) none none) 3 2 (p3_0 n).1 (p3_0 n).2 [] N K := by kernel_rfl
theorem to3_2 : evPre cfg (ov Q (some (.bool true)) none none) 3 2 (p3_0 n).1 (p3_0 n).2 [] N K = N (p3_2 n).1 (p3_2 n).2 [] := by kernel_rfl
theorem to3_5 : evPre cfg Q 3 2 (p3_2 n).1 (p3_2 n).2 [] N K = N (p3_5 n).1 (p3_5 n).2 [] := by kernel_rfl
theorem at3_6 : evPre cfg Q 3 1 (p3_5 n).1 (p3_5 n).2 [] N K = evPre cfg (ov Q none (Q.clo 8 [.int .i64 n, .int .i64 33]) none) 3 1 (p3_5 n).1 (p3_5 n).2 [] N K := by kernel_rfl
theorem to3_6 : evPre cfg (ov Q none (some (.int .i64 k)) none) 3 1 (p3_5 n).1 (p3_5 n).2 [] N K = N (p3_6 n k).1 (p3_6 n k).2 [] := by kernel_rfl
/-- the function, from its seventh piece on -/
theorem from3 (h7 : Q.clo 7 [] = some (.bool true)) (h8 : Q.clo 8 [.int .i64 n, .int .i64 33] = some (.int .i64 k)) : evCode cfg Q 3 (p3_0 n).1 (p3_0 n).2 [] K = evCode cfg Q 3 (p3_6 n k).1 (p3_6 n k).2 [] K := by
  rw [← evPre_eq cfg Q 3 K 2 (p3_0 n).1, at3_2, h7, to3_2]
  rw [← evPre_eq cfg Q 3 K 2 (p3_2 n).1, to3_5]
  rw [← evPre_eq cfg Q 3 K 1 (p3_5 n).1, at3_6, h8, to3_6]
end
/-- what is left, by what is told of a form -/
noncomputable def last3 (Q : Orc) (n k : Int) : Option CV := closed (evCodeF cfg Q 3 (p3_6 n k).1 (p3_6 n k).2 [] (kBody cfg 3 0 Tryz.f3))
theorem atK0 (Q : Orc) (n : Int) : last3 Q n 0 = last3 (ov Q none none (Q.clo 9 [.str ⟨#[110]⟩])) n 0 := by kernel_rfl
theorem toK0 (Q : Orc) (n : Int) : last3 (ov Q none none (some (.str ⟨#[118, 53, 32, 49, 32, 49, 48]⟩))) n 0 = some (.bool true) := by kernel_rfl
theorem atK1 (Q : Orc) (n : Int) : last3 Q n 1 = last3 (ov Q none none (Q.clo 9 [.str ⟨#[102]⟩])) n 1 := by kernel_rfl
theorem toK1 (Q : Orc) (n : Int) : last3 (ov Q none none (some (.str ⟨#[118, 52, 32, 49, 32, 40, 51, 32, 49, 48, 32, 49, 48, 41]⟩))) n 1 = some (.bool true) := by kernel_rfl
theorem atK2 (Q : Orc) (n : Int) : last3 Q n 2 = last3 (ov Q none none (Q.clo 9 [.str ⟨#[99]⟩])) n 2 := by kernel_rfl
theorem toK2 (Q : Orc) (n : Int) : last3 (ov Q none none (some (.str ⟨#[118, 51, 32, 49, 32, 40, 49, 56, 32, 49, 53, 41]⟩))) n 2 = some (.bool true) := by kernel_rfl
theorem atK3 (Q : Orc) (n : Int) : last3 Q n 3 = last3 (ov Q none none (Q.clo 9 [.str ⟨#[120]⟩])) n 3 := by kernel_rfl
theorem toK3 (Q : Orc) (n : Int) : last3 (ov Q none none (some (.str ⟨#[118, 49, 32, 48, 32, 49, 53]⟩))) n 3 = some (.bool true) := by kernel_rfl
theorem atK4 (Q : Orc) (n : Int) : last3 Q n 4 = last3 (ov Q none none (Q.clo 9 [.str ⟨#[104]⟩])) n 4 := by kernel_rfl
theorem toK4 (Q : Orc) (n : Int) : last3 (ov Q none none (some (.str ⟨#[118, 48, 32, 48, 32, 40, 49, 54, 32, 49, 53, 32, 49, 53, 41]⟩))) n 4 = some (.bool true) := by kernel_rfl
theorem atK5 (Q : Orc) (n : Int) : last3 Q n 5 = last3 (ov Q none none (Q.clo 9 [.str ⟨#[100]⟩])) n 5 := by kernel_rfl
theorem toK5 (Q : Orc) (n : Int) : last3 (ov Q none none (some (.str ⟨#[40, 49, 50, 32, 40, 49, 50, 32, 49, 49, 41, 41, 32, 49, 32, 49, 48]⟩))) n 5 = some (.bool true) := by kernel_rfl
theorem atK6 (Q : Orc) (n : Int) : last3 Q n 6 = last3 (ov Q none none (Q.clo 9 [.str ⟨#[112]⟩])) n 6 := by kernel_rfl
theorem toK6 (Q : Orc) (n : Int) : last3 (ov Q none none (some (.str ⟨#[105, 57, 32, 48, 32, 49, 53]⟩))) n 6 = some (.bool true) := by kernel_rfl
theorem atK7 (Q : Orc) (n : Int) : last3 Q n 7 = last3 (ov Q none none (Q.clo 9 [.str ⟨#[113]⟩])) n 7 := by kernel_rfl
theorem toK7 (Q : Orc) (n : Int) : last3 (ov Q none none (some (.str ⟨#[110, 97, 109, 101]⟩))) n 7 = some (.bool true) := by kernel_rfl
theorem atK8 (Q : Orc) (n : Int) : last3 Q n 8 = last3 (ov Q none none (Q.clo 9 [.str ⟨#[53]⟩])) n 8 := by kernel_rfl
theorem toK8 (Q : Orc) (n : Int) : last3 (ov Q none none (some (.str ⟨#[105, 53, 32, 48, 32, 49, 53]⟩))) n 8 = some (.bool true) := by kernel_rfl
theorem atK9 (Q : Orc) (n : Int) : last3 Q n 9 = last3 (ov Q none none (Q.clo 9 [.str ⟨#[45, 53]⟩])) n 9 := by kernel_rfl
theorem toK9 (Q : Orc) (n : Int) : last3 (ov Q none none (some (.str ⟨#[105, 45, 53, 32, 48, 32, 49, 53]⟩))) n 9 = some (.bool true) := by kernel_rfl
theorem atK10 (Q : Orc) (n : Int) : last3 Q n 10 = last3 (ov Q none none (Q.clo 9 [.str ⟨#[85, 48]⟩])) n 10 := by kernel_rfl
theorem toK10 (Q : Orc) (n : Int) : last3 (ov Q none none (some (.str ⟨#[85, 48, 32, 49, 32, 85, 49]⟩))) n 10 = some (.bool true) := by kernel_rfl
theorem atK11 (Q : Orc) (n : Int) : last3 Q n 11 = last3 (ov Q none none (Q.clo 9 [.str ⟨#[85, 49]⟩])) n 11 := by kernel_rfl
theorem toK11 (Q : Orc) (n : Int) : last3 (ov Q none none (some (.str ⟨#[85, 49, 32, 49, 32, 85, 50]⟩))) n 11 = some (.bool true) := by kernel_rfl
theorem atK12 (Q : Orc) (n : Int) : last3 Q n 12 = last3 (ov Q none none (Q.clo 9 [.str ⟨#[85, 50]⟩])) n 12 := by kernel_rfl
theorem toK12 (Q : Orc) (n : Int) : last3 (ov Q none none (some (.str ⟨#[108, 101, 118, 101, 108]⟩))) n 12 = some (.bool true) := by kernel_rfl
theorem atK13 (Q : Orc) (n : Int) : last3 Q n 13 = last3 (ov Q none none (Q.clo 9 [.str ⟨#[78, 97, 116]⟩])) n 13 := by kernel_rfl
theorem toK13 (Q : Orc) (n : Int) : last3 (ov Q none none (some (.str ⟨#[49, 48, 32, 49, 32, 85, 48]⟩))) n 13 = some (.bool true) := by kernel_rfl
theorem atK14 (Q : Orc) (n : Int) : last3 Q n 14 = last3 (ov Q none none (Q.clo 9 [.str ⟨#[122, 101, 114, 111]⟩])) n 14 := by kernel_rfl
theorem toK14 (Q : Orc) (n : Int) : last3 (ov Q none none (some (.str ⟨#[49, 49, 32, 49, 32, 49, 48]⟩))) n 14 = some (.bool true) := by kernel_rfl
theorem atK15 (Q : Orc) (n : Int) : last3 Q n 15 = last3 (ov Q none none (Q.clo 9 [.str ⟨#[84, 121]⟩])) n 15 := by kernel_rfl
theorem toK15 (Q : Orc) (n : Int) : last3 (ov Q none none (some (.str ⟨#[49, 52, 32, 49, 32, 85, 48]⟩))) n 15 = some (.bool true) := by kernel_rfl
theorem atK16 (Q : Orc) (n : Int) : last3 Q n 16 = last3 (ov Q none none (Q.clo 9 [.str ⟨#[73, 110, 116]⟩])) n 16 := by kernel_rfl
theorem toK16 (Q : Orc) (n : Int) : last3 (ov Q none none (some (.str ⟨#[49, 53, 32, 49, 32, 49, 52]⟩))) n 16 = some (.bool true) := by kernel_rfl
theorem atK17 (Q : Orc) (n : Int) : last3 Q n 17 = last3 (ov Q none none (Q.clo 9 [.str ⟨#[112, 97, 105, 114]⟩])) n 17 := by kernel_rfl
theorem toK17 (Q : Orc) (n : Int) : last3 (ov Q none none (some (.str ⟨#[102, 111, 114, 109]⟩))) n 17 = some (.bool true) := by kernel_rfl
theorem atK18 (Q : Orc) (n : Int) : last3 Q n 18 = last3 (ov Q none none (Q.clo 9 [.str ⟨#[100, 101, 102]⟩])) n 18 := by kernel_rfl
theorem toK18 (Q : Orc) (n : Int) : last3 (ov Q none none (some (.str ⟨#[102, 111, 114, 109]⟩))) n 18 = some (.bool true) := by kernel_rfl
theorem atK19 (Q : Orc) (n : Int) : last3 Q n 19 = last3 (ov Q none none (Q.clo 9 [.str ⟨#[40, 102, 32, 110, 41]⟩])) n 19 := by kernel_rfl
theorem toK19 (Q : Orc) (n : Int) : last3 (ov Q none none (some (.str ⟨#[40, 53, 32, 118, 52, 32, 118, 53, 41, 32, 49, 32, 49, 48]⟩))) n 19 = some (.bool true) := by kernel_rfl
theorem atK20 (Q : Orc) (n : Int) : last3 Q n 20 = last3 (ov Q none none (Q.clo 9 [.str ⟨#[40, 102, 32, 122, 101, 114, 111, 32, 110, 41]⟩])) n 20 := by kernel_rfl
theorem toK20 (Q : Orc) (n : Int) : last3 (ov Q none none (some (.str ⟨#[115, 116, 97, 103, 101]⟩))) n 20 = some (.bool true) := by kernel_rfl
theorem atK21 (Q : Orc) (n : Int) : last3 Q n 21 = last3 (ov Q none none (Q.clo 9 [.str ⟨#[40, 102, 32, 51, 41]⟩])) n 21 := by kernel_rfl
theorem toK21 (Q : Orc) (n : Int) : last3 (ov Q none none (some (.str ⟨#[40, 53, 32, 118, 52, 32, 40, 49, 50, 32, 40, 49, 50, 32, 40, 49, 50, 32, 49, 49, 41, 41, 41, 41, 32, 49, 32, 49, 48]⟩))) n 21 = some (.bool true) := by kernel_rfl
theorem atK22 (Q : Orc) (n : Int) : last3 Q n 22 = last3 (ov Q none none (Q.clo 9 [.str ⟨#[40, 102, 32, 120, 41]⟩])) n 22 := by kernel_rfl
theorem toK22 (Q : Orc) (n : Int) : last3 (ov Q none none (some (.str ⟨#[115, 116, 97, 103, 101]⟩))) n 22 = some (.bool true) := by kernel_rfl
theorem atK23 (Q : Orc) (n : Int) : last3 Q n 23 = last3 (ov Q none none (Q.clo 9 [.str ⟨#[40, 102, 32, 99, 41]⟩])) n 23 := by kernel_rfl
theorem toK23 (Q : Orc) (n : Int) : last3 (ov Q none none (some (.str ⟨#[116, 121, 112, 101]⟩))) n 23 = some (.bool true) := by kernel_rfl
theorem atK24 (Q : Orc) (n : Int) : last3 Q n 24 = last3 (ov Q none none (Q.clo 9 [.str ⟨#[40, 104, 32, 120, 41]⟩])) n 24 := by kernel_rfl
theorem toK24 (Q : Orc) (n : Int) : last3 (ov Q none none (some (.str ⟨#[40, 50, 49, 32, 118, 48, 32, 118, 49, 41, 32, 48, 32, 49, 53]⟩))) n 24 = some (.bool true) := by kernel_rfl
theorem atK25 (Q : Orc) (n : Int) : last3 Q n 25 = last3 (ov Q none none (Q.clo 9 [.str ⟨#[40, 104, 32, 99, 41]⟩])) n 25 := by kernel_rfl
theorem toK25 (Q : Orc) (n : Int) : last3 (ov Q none none (some (.str ⟨#[40, 50, 49, 32, 118, 48, 32, 40, 51, 48, 32, 118, 51, 41, 41, 32, 48, 32, 49, 53]⟩))) n 25 = some (.bool true) := by kernel_rfl
theorem atK26 (Q : Orc) (n : Int) : last3 Q n 26 = last3 (ov Q none none (Q.clo 9 [.str ⟨#[40, 104, 32, 55, 41]⟩])) n 26 := by kernel_rfl
theorem toK26 (Q : Orc) (n : Int) : last3 (ov Q none none (some (.str ⟨#[40, 50, 49, 32, 118, 48, 32, 105, 55, 41, 32, 48, 32, 49, 53]⟩))) n 26 = some (.bool true) := by kernel_rfl
theorem atK27 (Q : Orc) (n : Int) : last3 Q n 27 = last3 (ov Q none none (Q.clo 9 [.str ⟨#[40, 107, 32, 120, 41]⟩])) n 27 := by kernel_rfl
theorem toK27 (Q : Orc) (n : Int) : last3 (ov Q none none (some (.str ⟨#[40, 50, 49, 32, 40, 51, 48, 32, 118, 50, 41, 32, 118, 49, 41, 32, 48, 32, 49, 53]⟩))) n 27 = some (.bool true) := by kernel_rfl
theorem atK28 (Q : Orc) (n : Int) : last3 Q n 28 = last3 (ov Q none none (Q.clo 9 [.str ⟨#[40, 107, 32, 99, 41]⟩])) n 28 := by kernel_rfl
theorem toK28 (Q : Orc) (n : Int) : last3 (ov Q none none (some (.str ⟨#[40, 50, 49, 32, 40, 51, 48, 32, 118, 50, 41, 32, 40, 51, 48, 32, 118, 51, 41, 41, 32, 48, 32, 49, 53]⟩))) n 28 = some (.bool true) := by kernel_rfl
theorem atK29 (Q : Orc) (n : Int) : last3 Q n 29 = last3 (ov Q none none (Q.clo 9 [.str ⟨#[40, 104, 32, 110, 41]⟩])) n 29 := by kernel_rfl
theorem toK29 (Q : Orc) (n : Int) : last3 (ov Q none none (some (.str ⟨#[115, 116, 97, 103, 101]⟩))) n 29 = some (.bool true) := by kernel_rfl
theorem atK30 (Q : Orc) (n : Int) : last3 Q n 30 = last3 (ov Q none none (Q.clo 9 [.str ⟨#[40, 110, 32, 120, 41]⟩])) n 30 := by kernel_rfl
theorem toK30 (Q : Orc) (n : Int) : last3 (ov Q none none (some (.str ⟨#[115, 116, 97, 103, 101]⟩))) n 30 = some (.bool true) := by kernel_rfl
theorem atK31 (Q : Orc) (n : Int) : last3 Q n 31 = last3 (ov Q none none (Q.clo 9 [.str ⟨#[40, 120, 32, 120, 41]⟩])) n 31 := by kernel_rfl
theorem toK31 (Q : Orc) (n : Int) : last3 (ov Q none none (some (.str ⟨#[115, 104, 97, 112, 101]⟩))) n 31 = some (.bool true) := by kernel_rfl
theorem atK32 (Q : Orc) (n : Int) : last3 Q n 32 = last3 (ov Q none none (Q.clo 9 [.str ⟨#[40, 99, 32, 120, 41]⟩])) n 32 := by kernel_rfl
theorem toK32 (Q : Orc) (n : Int) : last3 (ov Q none none (some (.str ⟨#[115, 104, 97, 112, 101]⟩))) n 32 = some (.bool true) := by kernel_rfl
theorem all3 (n : Int) : ∀ k : Fin 33, last3 (orcF cfg 399) n (k.val : Int) = some (.bool true) := fun k => match k with
  | ⟨0, _⟩ => ((atK0 (orcF cfg 399) n).trans (congrArg (fun x => last3 (ov (orcF cfg 399) none none x) n 0) toldK0)).trans (toK0 _ n)
  | ⟨1, _⟩ => ((atK1 (orcF cfg 399) n).trans (congrArg (fun x => last3 (ov (orcF cfg 399) none none x) n 1) toldK1)).trans (toK1 _ n)
  | ⟨2, _⟩ => ((atK2 (orcF cfg 399) n).trans (congrArg (fun x => last3 (ov (orcF cfg 399) none none x) n 2) toldK2)).trans (toK2 _ n)
  | ⟨3, _⟩ => ((atK3 (orcF cfg 399) n).trans (congrArg (fun x => last3 (ov (orcF cfg 399) none none x) n 3) toldK3)).trans (toK3 _ n)
  | ⟨4, _⟩ => ((atK4 (orcF cfg 399) n).trans (congrArg (fun x => last3 (ov (orcF cfg 399) none none x) n 4) toldK4)).trans (toK4 _ n)
  | ⟨5, _⟩ => ((atK5 (orcF cfg 399) n).trans (congrArg (fun x => last3 (ov (orcF cfg 399) none none x) n 5) toldK5)).trans (toK5 _ n)
  | ⟨6, _⟩ => ((atK6 (orcF cfg 399) n).trans (congrArg (fun x => last3 (ov (orcF cfg 399) none none x) n 6) toldK6)).trans (toK6 _ n)
  | ⟨7, _⟩ => ((atK7 (orcF cfg 399) n).trans (congrArg (fun x => last3 (ov (orcF cfg 399) none none x) n 7) toldK7)).trans (toK7 _ n)
  | ⟨8, _⟩ => ((atK8 (orcF cfg 399) n).trans (congrArg (fun x => last3 (ov (orcF cfg 399) none none x) n 8) toldK8)).trans (toK8 _ n)
  | ⟨9, _⟩ => ((atK9 (orcF cfg 399) n).trans (congrArg (fun x => last3 (ov (orcF cfg 399) none none x) n 9) toldK9)).trans (toK9 _ n)
  | ⟨10, _⟩ => ((atK10 (orcF cfg 399) n).trans (congrArg (fun x => last3 (ov (orcF cfg 399) none none x) n 10) toldK10)).trans (toK10 _ n)
  | ⟨11, _⟩ => ((atK11 (orcF cfg 399) n).trans (congrArg (fun x => last3 (ov (orcF cfg 399) none none x) n 11) toldK11)).trans (toK11 _ n)
  | ⟨12, _⟩ => ((atK12 (orcF cfg 399) n).trans (congrArg (fun x => last3 (ov (orcF cfg 399) none none x) n 12) toldK12)).trans (toK12 _ n)
  | ⟨13, _⟩ => ((atK13 (orcF cfg 399) n).trans (congrArg (fun x => last3 (ov (orcF cfg 399) none none x) n 13) toldK13)).trans (toK13 _ n)
  | ⟨14, _⟩ => ((atK14 (orcF cfg 399) n).trans (congrArg (fun x => last3 (ov (orcF cfg 399) none none x) n 14) toldK14)).trans (toK14 _ n)
  | ⟨15, _⟩ => ((atK15 (orcF cfg 399) n).trans (congrArg (fun x => last3 (ov (orcF cfg 399) none none x) n 15) toldK15)).trans (toK15 _ n)
  | ⟨16, _⟩ => ((atK16 (orcF cfg 399) n).trans (congrArg (fun x => last3 (ov (orcF cfg 399) none none x) n 16) toldK16)).trans (toK16 _ n)
  | ⟨17, _⟩ => ((atK17 (orcF cfg 399) n).trans (congrArg (fun x => last3 (ov (orcF cfg 399) none none x) n 17) toldK17)).trans (toK17 _ n)
  | ⟨18, _⟩ => ((atK18 (orcF cfg 399) n).trans (congrArg (fun x => last3 (ov (orcF cfg 399) none none x) n 18) toldK18)).trans (toK18 _ n)
  | ⟨19, _⟩ => ((atK19 (orcF cfg 399) n).trans (congrArg (fun x => last3 (ov (orcF cfg 399) none none x) n 19) toldK19)).trans (toK19 _ n)
  | ⟨20, _⟩ => ((atK20 (orcF cfg 399) n).trans (congrArg (fun x => last3 (ov (orcF cfg 399) none none x) n 20) toldK20)).trans (toK20 _ n)
  | ⟨21, _⟩ => ((atK21 (orcF cfg 399) n).trans (congrArg (fun x => last3 (ov (orcF cfg 399) none none x) n 21) toldK21)).trans (toK21 _ n)
  | ⟨22, _⟩ => ((atK22 (orcF cfg 399) n).trans (congrArg (fun x => last3 (ov (orcF cfg 399) none none x) n 22) toldK22)).trans (toK22 _ n)
  | ⟨23, _⟩ => ((atK23 (orcF cfg 399) n).trans (congrArg (fun x => last3 (ov (orcF cfg 399) none none x) n 23) toldK23)).trans (toK23 _ n)
  | ⟨24, _⟩ => ((atK24 (orcF cfg 399) n).trans (congrArg (fun x => last3 (ov (orcF cfg 399) none none x) n 24) toldK24)).trans (toK24 _ n)
  | ⟨25, _⟩ => ((atK25 (orcF cfg 399) n).trans (congrArg (fun x => last3 (ov (orcF cfg 399) none none x) n 25) toldK25)).trans (toK25 _ n)
  | ⟨26, _⟩ => ((atK26 (orcF cfg 399) n).trans (congrArg (fun x => last3 (ov (orcF cfg 399) none none x) n 26) toldK26)).trans (toK26 _ n)
  | ⟨27, _⟩ => ((atK27 (orcF cfg 399) n).trans (congrArg (fun x => last3 (ov (orcF cfg 399) none none x) n 27) toldK27)).trans (toK27 _ n)
  | ⟨28, _⟩ => ((atK28 (orcF cfg 399) n).trans (congrArg (fun x => last3 (ov (orcF cfg 399) none none x) n 28) toldK28)).trans (toK28 _ n)
  | ⟨29, _⟩ => ((atK29 (orcF cfg 399) n).trans (congrArg (fun x => last3 (ov (orcF cfg 399) none none x) n 29) toldK29)).trans (toK29 _ n)
  | ⟨30, _⟩ => ((atK30 (orcF cfg 399) n).trans (congrArg (fun x => last3 (ov (orcF cfg 399) none none x) n 30) toldK30)).trans (toK30 _ n)
  | ⟨31, _⟩ => ((atK31 (orcF cfg 399) n).trans (congrArg (fun x => last3 (ov (orcF cfg 399) none none x) n 31) toldK31)).trans (toK31 _ n)
  | ⟨32, _⟩ => ((atK32 (orcF cfg 399) n).trans (congrArg (fun x => last3 (ov (orcF cfg 399) none none x) n 32) toldK32)).trans (toK32 _ n)
  | ⟨n + 33, h⟩ => absurd h (by omega)
theorem fn3 : cfg.fn 3 = some Tryz.f3 := by kernel_rfl
theorem b3 : Tryz.f3.body = some body3 := by kernel_rfl
theorem known3 : (orcF cfg 399).clo 7 [] = some (.bool true) := by kernel_rfl
theorem clo3 (n : Int) : CloC Tryz.prog 3 [.int .i64 n] (.bool true) := by
  obtain ⟨k, hk⟩ := within_is (orcF cfg 398) n 33 (by omega) (by omega)
  have hk := clo_of (xs := [.int .i64 n, .int .i64 33]) (by kernel_rfl) (by kernel_rfl) hk
  refine clo1 (n := 400) (clo_of (by kernel_rfl) (by kernel_rfl) ?_)
  rw [body_pre fn3 b3 0]
  refine Eq.trans (congrArg closed (?_ : _ = evCodeF cfg (orcF cfg 399) 3 (p3_6 n (k.val : Int)).1 (p3_6 n (k.val : Int)).2 [] (kBody cfg 3 0 Tryz.f3))) (all3 n k)
  show evCodeF cfg (orcF cfg 399) 3 (p3_0 n).1 (p3_0 n).2 [] (kBody cfg 3 0 Tryz.f3) = _
  rw [evCodeF_eq, evCodeF_eq]
  exact from3 _ _ _ _ known3 hk
end Go.Proofs.YtdfeffddghpaoaaGreatDoor
