/- slices.Contains at the names that are made: what the interpreter answers. -/
import Derived.Test.YtkbcnojfibifiaaDoorC1
import Derived.Test.YtkbcnojfibifiaaDoorEvD
import Derived.KernelRfl
set_option linter.unusedVariables false
set_option linter.unusedSectionVars false
set_option linter.unusedSimpArgs false
set_option linter.unnecessarySimpa false
namespace Go.Proofs.YtkbcnojfibifiaaDoor
open Go Go.Ev
def chk2 : Option CV → Bool → Bool
  | some (.bool b), t => b == t
  | _, _ => false
theorem chk2_eq {x : Option CV} {t : Bool} (h : chk2 x t = true) : x = some (.bool t) := by
  unfold chk2 at h
  split at h
  · rw [eq_of_beq h]
  · cases h
noncomputable def contAt (a : List UInt8) : Bool := names31.all fun m => chk2 ((orcF cfg0 20).clo 26 [.im [.str ⟨a.toArray⟩], .str ⟨m.toArray⟩]) (a == m)
theorem cont0 : contAt [100, UInt8.ofNat (97 + 0 % 26), UInt8.ofNat (97 + 0 / 26)] = true := by kernel_rfl
theorem cont1 : contAt [100, UInt8.ofNat (97 + 1 % 26), UInt8.ofNat (97 + 1 / 26)] = true := by kernel_rfl
theorem cont2 : contAt [100, UInt8.ofNat (97 + 2 % 26), UInt8.ofNat (97 + 2 / 26)] = true := by kernel_rfl
theorem cont3 : contAt [100, UInt8.ofNat (97 + 3 % 26), UInt8.ofNat (97 + 3 / 26)] = true := by kernel_rfl
theorem cont4 : contAt [100, UInt8.ofNat (97 + 4 % 26), UInt8.ofNat (97 + 4 / 26)] = true := by kernel_rfl
theorem cont5 : contAt [100, UInt8.ofNat (97 + 5 % 26), UInt8.ofNat (97 + 5 / 26)] = true := by kernel_rfl
theorem cont6 : contAt [100, UInt8.ofNat (97 + 6 % 26), UInt8.ofNat (97 + 6 / 26)] = true := by kernel_rfl
theorem cont7 : contAt [100, UInt8.ofNat (97 + 7 % 26), UInt8.ofNat (97 + 7 / 26)] = true := by kernel_rfl
theorem cont8 : contAt [100, UInt8.ofNat (97 + 8 % 26), UInt8.ofNat (97 + 8 / 26)] = true := by kernel_rfl
theorem cont9 : contAt [100, UInt8.ofNat (97 + 9 % 26), UInt8.ofNat (97 + 9 / 26)] = true := by kernel_rfl
theorem cont10 : contAt [100, UInt8.ofNat (97 + 10 % 26), UInt8.ofNat (97 + 10 / 26)] = true := by kernel_rfl
theorem cont11 : contAt [100, UInt8.ofNat (97 + 11 % 26), UInt8.ofNat (97 + 11 / 26)] = true := by kernel_rfl
theorem cont12 : contAt [100, UInt8.ofNat (97 + 12 % 26), UInt8.ofNat (97 + 12 / 26)] = true := by kernel_rfl
theorem cont13 : contAt [100, UInt8.ofNat (97 + 13 % 26), UInt8.ofNat (97 + 13 / 26)] = true := by kernel_rfl
theorem cont14 : contAt [100, UInt8.ofNat (97 + 14 % 26), UInt8.ofNat (97 + 14 / 26)] = true := by kernel_rfl
theorem cont15 : contAt [100, UInt8.ofNat (97 + 15 % 26), UInt8.ofNat (97 + 15 / 26)] = true := by kernel_rfl
theorem cont16 : contAt [100, UInt8.ofNat (97 + 16 % 26), UInt8.ofNat (97 + 16 / 26)] = true := by kernel_rfl
theorem cont17 : contAt [100, UInt8.ofNat (97 + 17 % 26), UInt8.ofNat (97 + 17 / 26)] = true := by kernel_rfl
theorem cont18 : contAt [100, UInt8.ofNat (97 + 18 % 26), UInt8.ofNat (97 + 18 / 26)] = true := by kernel_rfl
theorem cont19 : contAt [100, UInt8.ofNat (97 + 19 % 26), UInt8.ofNat (97 + 19 / 26)] = true := by kernel_rfl
theorem cont20 : contAt [100, UInt8.ofNat (97 + 20 % 26), UInt8.ofNat (97 + 20 / 26)] = true := by kernel_rfl
theorem cont21 : contAt [100, UInt8.ofNat (97 + 21 % 26), UInt8.ofNat (97 + 21 / 26)] = true := by kernel_rfl
theorem cont22 : contAt [100, UInt8.ofNat (97 + 22 % 26), UInt8.ofNat (97 + 22 / 26)] = true := by kernel_rfl
theorem cont23 : contAt [100, UInt8.ofNat (97 + 23 % 26), UInt8.ofNat (97 + 23 / 26)] = true := by kernel_rfl
theorem cont24 : contAt [100, UInt8.ofNat (97 + 24 % 26), UInt8.ofNat (97 + 24 / 26)] = true := by kernel_rfl
theorem cont25 : contAt [100, UInt8.ofNat (97 + 25 % 26), UInt8.ofNat (97 + 25 / 26)] = true := by kernel_rfl
theorem cont26 : contAt [100, UInt8.ofNat (97 + 26 % 26), UInt8.ofNat (97 + 26 / 26)] = true := by kernel_rfl
theorem cont27 : contAt [100, UInt8.ofNat (97 + 27 % 26), UInt8.ofNat (97 + 27 / 26)] = true := by kernel_rfl
theorem cont28 : contAt [100, UInt8.ofNat (97 + 28 % 26), UInt8.ofNat (97 + 28 / 26)] = true := by kernel_rfl
theorem cont29 : contAt [100, UInt8.ofNat (97 + 29 % 26), UInt8.ofNat (97 + 29 / 26)] = true := by kernel_rfl
theorem cont30 : contAt [100, UInt8.ofNat (97 + 30 % 26), UInt8.ofNat (97 + 30 / 26)] = true := by kernel_rfl
theorem cont_all : ∀ i, i < 31 → contAt [100, UInt8.ofNat (97 + i % 26), UInt8.ofNat (97 + i / 26)] = true := fun i hi => match i, hi with
  | 0, _ => cont0
  | 1, _ => cont1
  | 2, _ => cont2
  | 3, _ => cont3
  | 4, _ => cont4
  | 5, _ => cont5
  | 6, _ => cont6
  | 7, _ => cont7
  | 8, _ => cont8
  | 9, _ => cont9
  | 10, _ => cont10
  | 11, _ => cont11
  | 12, _ => cont12
  | 13, _ => cont13
  | 14, _ => cont14
  | 15, _ => cont15
  | 16, _ => cont16
  | 17, _ => cont17
  | 18, _ => cont18
  | 19, _ => cont19
  | 20, _ => cont20
  | 21, _ => cont21
  | 22, _ => cont22
  | 23, _ => cont23
  | 24, _ => cont24
  | 25, _ => cont25
  | 26, _ => cont26
  | 27, _ => cont27
  | 28, _ => cont28
  | 29, _ => cont29
  | 30, _ => cont30
  | n + 31, h => absurd h (by omega)
end Go.Proofs.YtkbcnojfibifiaaDoor
