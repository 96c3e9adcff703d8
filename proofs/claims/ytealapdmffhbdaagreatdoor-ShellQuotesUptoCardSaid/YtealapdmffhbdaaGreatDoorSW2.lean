/- The tables are the program's. -/
import Derived.Test.YtealapdmffhbdaaGreatDoorSW1
import Derived.Test.YtealapdmffhbdaaGreatDoorEvE
import Derived.KernelRfl
import Derived.Test.YtealapdmffhbdaaGreatDoorChecked
set_option linter.unusedVariables false
set_option linter.unusedSectionVars false
set_option linter.unusedSimpArgs false
set_option linter.unnecessarySimpa false
namespace Go.Proofs.YtealapdmffhbdaaGreatDoor
open Go Go.Ev
theorem types_all : (List.range 448).map (tab types) = (List.range 448).map (fun t => Tryz.prog.info? t) := by kernel_rfl
theorem funcs_all : (List.range 416).map (tab funcs) = (List.range 416).map (fun t => Tryz.prog.funcs[t]?) := by kernel_rfl
theorem funcs_ok : funcs.flatten.all goOk = true := by kernel_rfl
theorem mixed : Tryz.prog.follows .mixedOrders = true := by kernel_rfl
theorem okT (t : MT) : Ok Tryz.prog (cfgT t) ∧ CodesOk (cfgT t) := ok_of rfl rfl rfl rfl types_all funcs_all funcs_ok mixed
/-- what is known of a call -/
abbrev Known (f : Nat) (xs : List CV) (r : CV) : Prop := Fact Tryz.prog cfg0 f xs r
theorem prmT {t : MT} (h : AllT Known t) : PrmOk Tryz.prog (cfgT t) := memo_ok (fun _ => rfl) rfl rfl h
theorem knownT {t : MT} (h : AllT Known t) {n f : Nat} {xs : List CV} {r : CV} (hr : (orcF (cfgT t) n).clo f xs = some r) : Known f xs r := memo_fact (okT t).1 (okT t).2 (prmT h) rfl rfl hr
theorem consE {Q : List CV → CV → Prop} {e : List CV × CV} {l : List (List CV × CV)} (h : Q e.1 e.2) (k : AllE Q l) : AllE Q (e :: l) := ⟨h, k⟩
theorem consT {Q : Nat → List CV → CV → Prop} {p : Nat × List (List CV × CV)} {l : MT} (h : AllE (Q p.1) p.2) (k : AllT Q l) : AllT Q (p :: l) := ⟨h, k⟩
theorem all0 : AllT Known t0 := trivial
end Go.Proofs.YtealapdmffhbdaaGreatDoor
