/- The calls that are known by stage 2. -/
import Derived.Test.YtealapdmffhbdaaGreatDoorSWM2A
set_option linter.unusedVariables false
set_option linter.unusedSectionVars false
set_option linter.unusedSimpArgs false
set_option linter.unnecessarySimpa false
namespace Go.Proofs.YtealapdmffhbdaaGreatDoor
open Go Go.Ev
noncomputable def t2 : MT := [(168, [(x140, y140)]),
  (335, [(x207, y207)]),
  (54, [(x288, y288)]),
  (85, [(x296, y296)])]
theorem all2 : AllT Known t2 := (consT (consE q140 trivial)
  (consT (consE q207 trivial)
  (consT (consE q288 trivial)
  (consT (consE q296 trivial)
  trivial))))
end Go.Proofs.YtealapdmffhbdaaGreatDoor
