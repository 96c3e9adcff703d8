/- The calls that are known by stage 1. -/
import Derived.Test.YtndojngcaohgnaaGreatDoorDKM1A
import Derived.Test.YtndojngcaohgnaaGreatDoorDKM1B
set_option linter.unusedVariables false
set_option linter.unusedSectionVars false
set_option linter.unusedSimpArgs false
set_option linter.unnecessarySimpa false
namespace Go.Proofs.YtndojngcaohgnaaGreatDoor
open Go Go.Ev
noncomputable def t1 : MT := [(163, [(x65, y65), (x734, y734)]),
  (116, [(x80, y80)]),
  (61, [(x914, y914), (x1664, y1664), (x1673, y1673), (x2512, y2512), (x2728, y2728)]),
  (214, [(x945, y945), (x1103, y1103), (x2575, y2575)]),
  (33, [(x1480, y1480), (x2053, y2053), (x2417, y2417), (x2596, y2596), (x2750, y2750), (x3372, y3372)]),
  (44, [(x2315, y2315), (x3179, y3179)])]
theorem all1 : AllT Known t1 := (consT (consE q65 (consE q734 trivial))
  (consT (consE q80 trivial)
  (consT (consE q914 (consE q1664 (consE q1673 (consE q2512 (consE q2728 trivial)))))
  (consT (consE q945 (consE q1103 (consE q2575 trivial)))
  (consT (consE q1480 (consE q2053 (consE q2417 (consE q2596 (consE q2750 (consE q3372 trivial))))))
  (consT (consE q2315 (consE q3179 trivial))
  trivial))))))
end Go.Proofs.YtndojngcaohgnaaGreatDoor
