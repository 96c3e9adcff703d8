/- Calls of stage 5. -/
import Derived.Test.YthndchidnkbgiaaGreatDoorDTT3
set_option linter.unusedVariables false
set_option linter.unusedSectionVars false
set_option linter.unusedSimpArgs false
set_option linter.unnecessarySimpa false
namespace Go.Proofs.YthndchidnkbgiaaGreatDoor
open Go Go.Ev
theorem q2081 : Known 134 x2081 y2081 := knownT all4 (n := 399) (by kernel_rfl)
theorem q4900 : Known 28 x4900 y4900 := knownT all4 (n := 399) (by kernel_rfl)
end Go.Proofs.YthndchidnkbgiaaGreatDoor
/- The calls that are known by stage 5. -/
namespace Go.Proofs.YthndchidnkbgiaaGreatDoor
open Go Go.Ev
noncomputable def t5 : MT := [(158, [(x65, y65), (x972, y972)]),
  (111, [(x80, y80), (x812, y812), (x814, y814), (x820, y820), (x828, y828), (x839, y839), (x843, y843), (x848, y848), (x866, y866), (x868, y868), (x873, y873), (x875, y875), (x898, y898)]),
  (4, [(x141, y141)]),
  (39, [(x712, y712), (x2697, y2697), (x3393, y3393), (x4104, y4104), (x4828, y4828), (x5563, y5563)]),
  (23, [(x742, y742), (x2701, y2701), (x3397, y3397), (x4108, y4108), (x4832, y4832), (x5567, y5567)]),
  (45, [(x761, y761), (x788, y788)]),
  (47, [(x947, y947), (x2713, y2713), (x3411, y3411), (x4122, y4122), (x4846, y4846), (x5581, y5581)]),
  (75, [(x1007, y1007), (x1335, y1335), (x5634, y5634)]),
  (56, [(x1019, y1019), (x1359, y1359), (x1466, y1466), (x1476, y1476), (x1553, y1553), (x1608, y1608), (x1657, y1657), (x1716, y1716), (x1809, y1809), (x1954, y1954), (x2053, y2053), (x2744, y2744), (x2753, y2753), (x3442, y3442), (x3451, y3451), (x3521, y3521), (x4153, y4153), (x4162, y4162), (x4228, y4228), (x4877, y4877), (x4886, y4886), (x4943, y4943), (x5612, y5612), (x5621, y5621), (x5672, y5672)]),
  (209, [(x1122, y1122), (x1163, y1163), (x1623, y1623)]),
  (77, [(x1195, y1195), (x1772, y1772)]),
  (167, [(x1198, y1198)]),
  (117, [(x1258, y1258)]),
  (118, [(x1309, y1309), (x1512, y1512), (x1597, y1597)]),
  (116, [(x1333, y1333), (x1771, y1771)]),
  (85, [(x1337, y1337), (x1346, y1346), (x1724, y1724), (x2040, y2040), (x2133, y2133), (x4884, y4884)]),
  (186, [(x1458, y1458), (x1538, y1538), (x1650, y1650), (x1709, y1709), (x1805, y1805), (x2737, y2737), (x3435, y3435), (x4146, y4146), (x4870, y4870), (x5605, y5605)]),
  (174, [(x1563, y1563)]),
  (251, [(x1670, y1670), (x1733, y1733), (x2063, y2063)]),
  (239, [(x1719, y1719)]),
  (166, [(x1777, y1777)]),
  (115, [(x1792, y1792)]),
  (122, [(x2076, y2076), (x2110, y2110), (x3473, y3473)]),
  (134, [(x2081, y2081)]),
  (34, [(x2152, y2152), (x2837, y2837)]),
  (19, [(x2181, y2181)]),
  (180, [(x4157, y4157)]),
  (148, [(x4278, y4278), (x5008, y5008)]),
  (28, [(x4900, y4900)]),
  (51, [(x4927, y4927)])]
theorem all5 : AllT Known t5 := (consT (consE q65 (consE q972 trivial))
  (consT (consE q80 (consE q812 (consE q814 (consE q820 (consE q828 (consE q839 (consE q843 (consE q848 (consE q866 (consE q868 (consE q873 (consE q875 (consE q898 trivial)))))))))))))
  (consT (consE q141 trivial)
  (consT (consE q712 (consE q2697 (consE q3393 (consE q4104 (consE q4828 (consE q5563 trivial))))))
  (consT (consE q742 (consE q2701 (consE q3397 (consE q4108 (consE q4832 (consE q5567 trivial))))))
  (consT (consE q761 (consE q788 trivial))
  (consT (consE q947 (consE q2713 (consE q3411 (consE q4122 (consE q4846 (consE q5581 trivial))))))
  (consT (consE q1007 (consE q1335 (consE q5634 trivial)))
  (consT (consE q1019 (consE q1359 (consE q1466 (consE q1476 (consE q1553 (consE q1608 (consE q1657 (consE q1716 (consE q1809 (consE q1954 (consE q2053 (consE q2744 (consE q2753 (consE q3442 (consE q3451 (consE q3521 (consE q4153 (consE q4162 (consE q4228 (consE q4877 (consE q4886 (consE q4943 (consE q5612 (consE q5621 (consE q5672 trivial)))))))))))))))))))))))))
  (consT (consE q1122 (consE q1163 (consE q1623 trivial)))
  (consT (consE q1195 (consE q1772 trivial))
  (consT (consE q1198 trivial)
  (consT (consE q1258 trivial)
  (consT (consE q1309 (consE q1512 (consE q1597 trivial)))
  (consT (consE q1333 (consE q1771 trivial))
  (consT (consE q1337 (consE q1346 (consE q1724 (consE q2040 (consE q2133 (consE q4884 trivial))))))
  (consT (consE q1458 (consE q1538 (consE q1650 (consE q1709 (consE q1805 (consE q2737 (consE q3435 (consE q4146 (consE q4870 (consE q5605 trivial))))))))))
  (consT (consE q1563 trivial)
  (consT (consE q1670 (consE q1733 (consE q2063 trivial)))
  (consT (consE q1719 trivial)
  (consT (consE q1777 trivial)
  (consT (consE q1792 trivial)
  (consT (consE q2076 (consE q2110 (consE q3473 trivial)))
  (consT (consE q2081 trivial)
  (consT (consE q2152 (consE q2837 trivial))
  (consT (consE q2181 trivial)
  (consT (consE q4157 trivial)
  (consT (consE q4278 (consE q5008 trivial))
  (consT (consE q4900 trivial)
  (consT (consE q4927 trivial)
  trivial))))))))))))))))))))))))))))))
end Go.Proofs.YthndchidnkbgiaaGreatDoor
/- Calls of stage 6. -/
namespace Go.Proofs.YthndchidnkbgiaaGreatDoor
open Go Go.Ev
theorem q2093 : Known 121 x2093 y2093 := knownT all5 (n := 399) (by kernel_rfl)
end Go.Proofs.YthndchidnkbgiaaGreatDoor
/- The calls that are known by stage 6. -/
namespace Go.Proofs.YthndchidnkbgiaaGreatDoor
open Go Go.Ev
noncomputable def t6 : MT := [(158, [(x65, y65), (x972, y972)]),
  (111, [(x80, y80), (x812, y812), (x814, y814), (x820, y820), (x828, y828), (x839, y839), (x843, y843), (x848, y848), (x866, y866), (x868, y868), (x873, y873), (x875, y875), (x898, y898)]),
  (4, [(x141, y141)]),
  (39, [(x712, y712), (x2697, y2697), (x3393, y3393), (x4104, y4104), (x4828, y4828), (x5563, y5563)]),
  (23, [(x742, y742), (x2701, y2701), (x3397, y3397), (x4108, y4108), (x4832, y4832), (x5567, y5567)]),
  (45, [(x761, y761), (x788, y788)]),
  (47, [(x947, y947), (x2713, y2713), (x3411, y3411), (x4122, y4122), (x4846, y4846), (x5581, y5581)]),
  (75, [(x1007, y1007), (x1335, y1335), (x5634, y5634)]),
  (56, [(x1019, y1019), (x1359, y1359), (x1466, y1466), (x1476, y1476), (x1553, y1553), (x1608, y1608), (x1657, y1657), (x1716, y1716), (x1809, y1809), (x1954, y1954), (x2053, y2053), (x2744, y2744), (x2753, y2753), (x3442, y3442), (x3451, y3451), (x3521, y3521), (x4153, y4153), (x4162, y4162), (x4228, y4228), (x4877, y4877), (x4886, y4886), (x4943, y4943), (x5612, y5612), (x5621, y5621), (x5672, y5672)]),
  (209, [(x1122, y1122), (x1163, y1163), (x1623, y1623)]),
  (77, [(x1195, y1195), (x1772, y1772)]),
  (167, [(x1198, y1198)]),
  (117, [(x1258, y1258)]),
  (118, [(x1309, y1309), (x1512, y1512), (x1597, y1597)]),
  (116, [(x1333, y1333), (x1771, y1771)]),
  (85, [(x1337, y1337), (x1346, y1346), (x1724, y1724), (x2040, y2040), (x2133, y2133), (x4884, y4884)]),
  (186, [(x1458, y1458), (x1538, y1538), (x1650, y1650), (x1709, y1709), (x1805, y1805), (x2737, y2737), (x3435, y3435), (x4146, y4146), (x4870, y4870), (x5605, y5605)]),
  (174, [(x1563, y1563)]),
  (251, [(x1670, y1670), (x1733, y1733), (x2063, y2063)]),
  (239, [(x1719, y1719)]),
  (166, [(x1777, y1777)]),
  (115, [(x1792, y1792)]),
  (122, [(x2076, y2076), (x2110, y2110), (x3473, y3473)]),
  (134, [(x2081, y2081)]),
  (121, [(x2093, y2093)]),
  (34, [(x2152, y2152), (x2837, y2837)]),
  (19, [(x2181, y2181)]),
  (180, [(x4157, y4157)]),
  (148, [(x4278, y4278), (x5008, y5008)]),
  (28, [(x4900, y4900)]),
  (51, [(x4927, y4927)])]
theorem all6 : AllT Known t6 := (consT (consE q65 (consE q972 trivial))
  (consT (consE q80 (consE q812 (consE q814 (consE q820 (consE q828 (consE q839 (consE q843 (consE q848 (consE q866 (consE q868 (consE q873 (consE q875 (consE q898 trivial)))))))))))))
  (consT (consE q141 trivial)
  (consT (consE q712 (consE q2697 (consE q3393 (consE q4104 (consE q4828 (consE q5563 trivial))))))
  (consT (consE q742 (consE q2701 (consE q3397 (consE q4108 (consE q4832 (consE q5567 trivial))))))
  (consT (consE q761 (consE q788 trivial))
  (consT (consE q947 (consE q2713 (consE q3411 (consE q4122 (consE q4846 (consE q5581 trivial))))))
  (consT (consE q1007 (consE q1335 (consE q5634 trivial)))
  (consT (consE q1019 (consE q1359 (consE q1466 (consE q1476 (consE q1553 (consE q1608 (consE q1657 (consE q1716 (consE q1809 (consE q1954 (consE q2053 (consE q2744 (consE q2753 (consE q3442 (consE q3451 (consE q3521 (consE q4153 (consE q4162 (consE q4228 (consE q4877 (consE q4886 (consE q4943 (consE q5612 (consE q5621 (consE q5672 trivial)))))))))))))))))))))))))
  (consT (consE q1122 (consE q1163 (consE q1623 trivial)))
  (consT (consE q1195 (consE q1772 trivial))
  (consT (consE q1198 trivial)
  (consT (consE q1258 trivial)
  (consT (consE q1309 (consE q1512 (consE q1597 trivial)))
  (consT (consE q1333 (consE q1771 trivial))
  (consT (consE q1337 (consE q1346 (consE q1724 (consE q2040 (consE q2133 (consE q4884 trivial))))))
  (consT (consE q1458 (consE q1538 (consE q1650 (consE q1709 (consE q1805 (consE q2737 (consE q3435 (consE q4146 (consE q4870 (consE q5605 trivial))))))))))
  (consT (consE q1563 trivial)
  (consT (consE q1670 (consE q1733 (consE q2063 trivial)))
  (consT (consE q1719 trivial)
  (consT (consE q1777 trivial)
  (consT (consE q1792 trivial)
  (consT (consE q2076 (consE q2110 (consE q3473 trivial)))
  (consT (consE q2081 trivial)
  (consT (consE q2093 trivial)
  (consT (consE q2152 (consE q2837 trivial))
  (consT (consE q2181 trivial)
  (consT (consE q4157 trivial)
  (consT (consE q4278 (consE q5008 trivial))
  (consT (consE q4900 trivial)
  (consT (consE q4927 trivial)
  trivial)))))))))))))))))))))))))))))))
end Go.Proofs.YthndchidnkbgiaaGreatDoor
