/- The calls that are known by stage 2. -/
import Derived.Test.YtndojngcaohgnaaGreatDoorDKM2A
set_option linter.unusedVariables false
set_option linter.unusedSectionVars false
set_option linter.unusedSimpArgs false
set_option linter.unnecessarySimpa false
namespace Go.Proofs.YtndojngcaohgnaaGreatDoor
open Go Go.Ev
noncomputable def t2 : MT := [(163, [(x65, y65), (x734, y734)]),
  (74, [(x67, y67)]),
  (116, [(x80, y80)]),
  (270, [(x891, y891)]),
  (120, [(x899, y899)]),
  (61, [(x914, y914), (x1664, y1664), (x1673, y1673), (x2512, y2512), (x2728, y2728)]),
  (214, [(x945, y945), (x1103, y1103), (x2528, y2528), (x2575, y2575)]),
  (122, [(x1475, y1475)]),
  (33, [(x1480, y1480), (x2053, y2053), (x2417, y2417), (x2596, y2596), (x2750, y2750), (x3372, y3372)]),
  (44, [(x2315, y2315), (x3179, y3179)]),
  (30, [(x3377, y3377)])]
theorem all2 : AllT Known t2 := (consT (consE q65 (consE q734 trivial))
  (consT (consE q67 trivial)
  (consT (consE q80 trivial)
  (consT (consE q891 trivial)
  (consT (consE q899 trivial)
  (consT (consE q914 (consE q1664 (consE q1673 (consE q2512 (consE q2728 trivial)))))
  (consT (consE q945 (consE q1103 (consE q2528 (consE q2575 trivial))))
  (consT (consE q1475 trivial)
  (consT (consE q1480 (consE q2053 (consE q2417 (consE q2596 (consE q2750 (consE q3372 trivial))))))
  (consT (consE q2315 (consE q3179 trivial))
  (consT (consE q3377 trivial)
  trivial)))))))))))
end Go.Proofs.YtndojngcaohgnaaGreatDoor
