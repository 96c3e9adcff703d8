/- The calls that are known by stage 1. -/
import Derived.Test.YtndojngcaohgnaaGreatDoorDAM1A
import Derived.Test.YtndojngcaohgnaaGreatDoorDAM1B
set_option linter.unusedVariables false
set_option linter.unusedSectionVars false
set_option linter.unusedSimpArgs false
set_option linter.unnecessarySimpa false
namespace Go.Proofs.YtndojngcaohgnaaGreatDoor
open Go Go.Ev
noncomputable def t1 : MT := [(25, [(x63, y63), (x270, y270), (x1024, y1024)]),
  (163, [(x65, y65), (x371, y371)]),
  (116, [(x80, y80)]),
  (35, [(x118, y118)]),
  (36, [(x128, y128), (x576, y576)]),
  (214, [(x411, y411), (x498, y498)]),
  (61, [(x440, y440), (x455, y455), (x820, y820), (x834, y834), (x1281, y1281)]),
  (37, [(x601, y601)]),
  (205, [(x783, y783)])]
theorem all1 : AllT Known t1 := (consT (consE q63 (consE q270 (consE q1024 trivial)))
  (consT (consE q65 (consE q371 trivial))
  (consT (consE q80 trivial)
  (consT (consE q118 trivial)
  (consT (consE q128 (consE q576 trivial))
  (consT (consE q411 (consE q498 trivial))
  (consT (consE q440 (consE q455 (consE q820 (consE q834 (consE q1281 trivial)))))
  (consT (consE q601 trivial)
  (consT (consE q783 trivial)
  trivial)))))))))
end Go.Proofs.YtndojngcaohgnaaGreatDoor
