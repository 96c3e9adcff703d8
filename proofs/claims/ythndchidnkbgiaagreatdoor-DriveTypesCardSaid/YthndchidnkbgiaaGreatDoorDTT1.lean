/- The calls that are known by stage 1. -/
import Derived.Test.YthndchidnkbgiaaGreatDoorDTM1A
import Derived.Test.YthndchidnkbgiaaGreatDoorDTM1B
import Derived.Test.YthndchidnkbgiaaGreatDoorDTM1C
import Derived.Test.YthndchidnkbgiaaGreatDoorDTM1D
import Derived.Test.YthndchidnkbgiaaGreatDoorDTM1E
import Derived.Test.YthndchidnkbgiaaGreatDoorDTM1F
import Derived.Test.YthndchidnkbgiaaGreatDoorDTM1G
set_option linter.unusedVariables false
set_option linter.unusedSectionVars false
set_option linter.unusedSimpArgs false
set_option linter.unnecessarySimpa false
namespace Go.Proofs.YthndchidnkbgiaaGreatDoor
open Go Go.Ev
noncomputable def t1 : MT := [(158, [(x65, y65), (x972, y972)]),
  (111, [(x80, y80), (x812, y812), (x814, y814), (x820, y820), (x828, y828), (x839, y839), (x843, y843), (x848, y848), (x866, y866), (x868, y868), (x873, y873), (x875, y875), (x898, y898)]),
  (39, [(x712, y712), (x2697, y2697), (x3393, y3393), (x4104, y4104), (x4828, y4828), (x5563, y5563)]),
  (45, [(x761, y761), (x788, y788)]),
  (56, [(x1019, y1019), (x1657, y1657), (x2753, y2753), (x3451, y3451), (x4162, y4162)]),
  (209, [(x1122, y1122), (x1163, y1163), (x1623, y1623)]),
  (167, [(x1198, y1198)]),
  (118, [(x1309, y1309), (x1512, y1512), (x1597, y1597)]),
  (116, [(x1333, y1333)]),
  (85, [(x1337, y1337), (x1346, y1346), (x2040, y2040), (x4884, y4884)]),
  (186, [(x1458, y1458), (x1538, y1538), (x1650, y1650), (x1709, y1709), (x1805, y1805), (x2737, y2737), (x3435, y3435), (x4146, y4146), (x4870, y4870), (x5605, y5605)]),
  (251, [(x1670, y1670)]),
  (19, [(x2181, y2181)]),
  (180, [(x4157, y4157)]),
  (148, [(x4278, y4278), (x5008, y5008)]),
  (51, [(x4927, y4927)])]
theorem all1 : AllT Known t1 := (consT (consE q65 (consE q972 trivial))
  (consT (consE q80 (consE q812 (consE q814 (consE q820 (consE q828 (consE q839 (consE q843 (consE q848 (consE q866 (consE q868 (consE q873 (consE q875 (consE q898 trivial)))))))))))))
  (consT (consE q712 (consE q2697 (consE q3393 (consE q4104 (consE q4828 (consE q5563 trivial))))))
  (consT (consE q761 (consE q788 trivial))
  (consT (consE q1019 (consE q1657 (consE q2753 (consE q3451 (consE q4162 trivial)))))
  (consT (consE q1122 (consE q1163 (consE q1623 trivial)))
  (consT (consE q1198 trivial)
  (consT (consE q1309 (consE q1512 (consE q1597 trivial)))
  (consT (consE q1333 trivial)
  (consT (consE q1337 (consE q1346 (consE q2040 (consE q4884 trivial))))
  (consT (consE q1458 (consE q1538 (consE q1650 (consE q1709 (consE q1805 (consE q2737 (consE q3435 (consE q4146 (consE q4870 (consE q5605 trivial))))))))))
  (consT (consE q1670 trivial)
  (consT (consE q2181 trivial)
  (consT (consE q4157 trivial)
  (consT (consE q4278 (consE q5008 trivial))
  (consT (consE q4927 trivial)
  trivial))))))))))))))))
end Go.Proofs.YthndchidnkbgiaaGreatDoor
