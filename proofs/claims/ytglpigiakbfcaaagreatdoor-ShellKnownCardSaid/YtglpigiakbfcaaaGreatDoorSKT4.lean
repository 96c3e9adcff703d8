/- The calls that are known by stage 4. -/
import Derived.Test.YtglpigiakbfcaaaGreatDoorSKM4A
set_option linter.unusedVariables false
set_option linter.unusedSectionVars false
set_option linter.unusedSimpArgs false
set_option linter.unnecessarySimpa false
namespace Go.Proofs.YtglpigiakbfcaaaGreatDoor
open Go Go.Ev
noncomputable def t4 : MT := [(164, [(x140, y140), (x193, y193)]),
  (163, [(x158, y158)]),
  (331, [(x207, y207), (x811, y811), (x913, y913)]),
  (56, [(x229, y229), (x842, y842), (x1038, y1038)]),
  (46, [(x288, y288), (x1224, y1224), (x2118, y2118)]),
  (78, [(x296, y296), (x1198, y1198), (x1267, y1267), (x1336, y1336), (x1338, y1338), (x1342, y1342), (x1366, y1366), (x1370, y1370), (x1419, y1419), (x1423, y1423), (x1637, y1637), (x1646, y1646), (x1650, y1650), (x1797, y1797), (x1803, y1803)]),
  (4, [(x311, y311)]),
  (13, [(x366, y366), (x428, y428)]),
  (80, [(x654, y654), (x2072, y2072), (x2395, y2395)]),
  (54, [(x667, y667)]),
  (97, [(x690, y690)]),
  (134, [(x764, y764), (x2107, y2107)]),
  (160, [(x787, y787)]),
  (292, [(x819, y819)]),
  (142, [(x852, y852), (x892, y892), (x1021, y1021)]),
  (214, [(x897, y897)]),
  (104, [(x928, y928), (x1031, y1031), (x1253, y1253)]),
  (184, [(x935, y935)]),
  (118, [(x938, y938)]),
  (106, [(x1108, y1108)]),
  (138, [(x1110, y1110)]),
  (107, [(x1162, y1162)]),
  (108, [(x1178, y1178)]),
  (77, [(x1190, y1190)]),
  (6, [(x1652, y1652)])]
theorem all4 : AllT Known t4 := (consT (consE q140 (consE q193 trivial))
  (consT (consE q158 trivial)
  (consT (consE q207 (consE q811 (consE q913 trivial)))
  (consT (consE q229 (consE q842 (consE q1038 trivial)))
  (consT (consE q288 (consE q1224 (consE q2118 trivial)))
  (consT (consE q296 (consE q1198 (consE q1267 (consE q1336 (consE q1338 (consE q1342 (consE q1366 (consE q1370 (consE q1419 (consE q1423 (consE q1637 (consE q1646 (consE q1650 (consE q1797 (consE q1803 trivial)))))))))))))))
  (consT (consE q311 trivial)
  (consT (consE q366 (consE q428 trivial))
  (consT (consE q654 (consE q2072 (consE q2395 trivial)))
  (consT (consE q667 trivial)
  (consT (consE q690 trivial)
  (consT (consE q764 (consE q2107 trivial))
  (consT (consE q787 trivial)
  (consT (consE q819 trivial)
  (consT (consE q852 (consE q892 (consE q1021 trivial)))
  (consT (consE q897 trivial)
  (consT (consE q928 (consE q1031 (consE q1253 trivial)))
  (consT (consE q935 trivial)
  (consT (consE q938 trivial)
  (consT (consE q1108 trivial)
  (consT (consE q1110 trivial)
  (consT (consE q1162 trivial)
  (consT (consE q1178 trivial)
  (consT (consE q1190 trivial)
  (consT (consE q1652 trivial)
  trivial)))))))))))))))))))))))))
end Go.Proofs.YtglpigiakbfcaaaGreatDoor
