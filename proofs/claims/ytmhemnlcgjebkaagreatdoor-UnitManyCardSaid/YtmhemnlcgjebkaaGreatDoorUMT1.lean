/- The calls that are known by stage 1. -/
import Derived.Test.YtmhemnlcgjebkaaGreatDoorUMM1A
set_option linter.unusedVariables false
set_option linter.unusedSectionVars false
set_option linter.unusedSimpArgs false
set_option linter.unnecessarySimpa false
namespace Go.Proofs.YtmhemnlcgjebkaaGreatDoor
open Go Go.Ev
noncomputable def t1 : MT := [(42, [(x4, y4)]),
  (21, [(x29, y29)]),
  (48, [(x34, y34)])]
theorem all1 : AllT Known t1 := (consT (consE q4 trivial)
  (consT (consE q29 trivial)
  (consT (consE q34 trivial)
  trivial)))
end Go.Proofs.YtmhemnlcgjebkaaGreatDoor
