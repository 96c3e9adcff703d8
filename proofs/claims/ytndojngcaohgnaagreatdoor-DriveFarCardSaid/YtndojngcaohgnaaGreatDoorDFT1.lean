/- The calls that are known by stage 1. -/
import Derived.Test.YtndojngcaohgnaaGreatDoorDFM1A
set_option linter.unusedVariables false
set_option linter.unusedSectionVars false
set_option linter.unusedSimpArgs false
set_option linter.unnecessarySimpa false
namespace Go.Proofs.YtndojngcaohgnaaGreatDoor
open Go Go.Ev
noncomputable def t1 : MT := [(163, [(x65, y65), (x400, y400)]),
  (116, [(x80, y80)]),
  (11, [(x149, y149)]),
  (214, [(x407, y407)])]
theorem all1 : AllT Known t1 := (consT (consE q65 (consE q400 trivial))
  (consT (consE q80 trivial)
  (consT (consE q149 trivial)
  (consT (consE q407 trivial)
  trivial))))
end Go.Proofs.YtndojngcaohgnaaGreatDoor
