/- The calls that are known by stage 3. -/
import Derived.Test.YtndojngcaohgnaaGreatDoorDFM3A
set_option linter.unusedVariables false
set_option linter.unusedSectionVars false
set_option linter.unusedSimpArgs false
set_option linter.unnecessarySimpa false
namespace Go.Proofs.YtndojngcaohgnaaGreatDoor
open Go Go.Ev
noncomputable def t3 : MT := [(163, [(x65, y65), (x400, y400)]),
  (116, [(x80, y80)]),
  (11, [(x140, y140), (x149, y149), (x182, y182), (x262, y262), (x485, y485)]),
  (8, [(x141, y141)]),
  (214, [(x407, y407)])]
theorem all3 : AllT Known t3 := (consT (consE q65 (consE q400 trivial))
  (consT (consE q80 trivial)
  (consT (consE q140 (consE q149 (consE q182 (consE q262 (consE q485 trivial)))))
  (consT (consE q141 trivial)
  (consT (consE q407 trivial)
  trivial)))))
end Go.Proofs.YtndojngcaohgnaaGreatDoor
