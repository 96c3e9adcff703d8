/- The calls that are known by stage 1. -/
import Derived.Test.YtealapdmffhbdaaGreatDoorSWM1A
set_option linter.unusedVariables false
set_option linter.unusedSectionVars false
set_option linter.unusedSimpArgs false
set_option linter.unnecessarySimpa false
namespace Go.Proofs.YtealapdmffhbdaaGreatDoor
open Go Go.Ev
noncomputable def t1 : MT := [(168, [(x140, y140)]),
  (335, [(x207, y207)]),
  (85, [(x296, y296)])]
theorem all1 : AllT Known t1 := (consT (consE q140 trivial)
  (consT (consE q207 trivial)
  (consT (consE q296 trivial)
  trivial)))
end Go.Proofs.YtealapdmffhbdaaGreatDoor
