/- The calls that are known by stage 4. -/
import Derived.Test.YtndojngcaohgnaaGreatDoorDPM4A
import Derived.Test.YtndojngcaohgnaaGreatDoorDPM4B
import Derived.Test.YtndojngcaohgnaaGreatDoorDPM4C
import Derived.Test.YtndojngcaohgnaaGreatDoorDPM4D
set_option linter.unusedVariables false
set_option linter.unusedSectionVars false
set_option linter.unusedSimpArgs false
set_option linter.unnecessarySimpa false
namespace Go.Proofs.YtndojngcaohgnaaGreatDoor
open Go Go.Ev
noncomputable def t4 : MT := [(113, [(x52, y52)]),
  (163, [(x65, y65), (x703, y703)]),
  (74, [(x67, y67)]),
  (116, [(x80, y80), (x576, y576), (x578, y578), (x586, y586), (x588, y588), (x591, y591), (x601, y601), (x613, y613), (x615, y615), (x620, y620), (x622, y622), (x625, y625), (x630, y630), (x635, y635), (x648, y648), (x650, y650)]),
  (8, [(x141, y141)]),
  (71, [(x500, y500)]),
  (72, [(x504, y504)]),
  (44, [(x511, y511), (x1741, y1741), (x2231, y2231), (x2706, y2706), (x3191, y3191), (x3674, y3674), (x4161, y4161), (x4645, y4645), (x5133, y5133), (x5612, y5612), (x6092, y6092), (x6567, y6567)]),
  (25, [(x529, y529), (x1746, y1746), (x2236, y2236), (x2711, y2711), (x3196, y3196), (x3679, y3679), (x4166, y4166), (x4650, y4650), (x5138, y5138), (x5617, y5617), (x6097, y6097), (x6572, y6572)]),
  (49, [(x532, y532)]),
  (50, [(x539, y539), (x556, y556), (x558, y558)]),
  (202, [(x610, y610)]),
  (205, [(x697, y697), (x792, y792), (x803, y803), (x1043, y1043), (x1051, y1051)]),
  (214, [(x728, y728), (x928, y928), (x957, y957), (x989, y989)]),
  (271, [(x736, y736), (x1066, y1066)]),
  (33, [(x771, y771), (x1023, y1023), (x1122, y1122), (x1793, y1793), (x1868, y1868), (x1885, y1885), (x1891, y1891), (x1897, y1897), (x1903, y1903), (x1908, y1908), (x1914, y1914), (x2283, y2283), (x2353, y2353), (x2368, y2368), (x2374, y2374), (x2378, y2378), (x2382, y2382), (x2386, y2386), (x2390, y2390), (x2758, y2758), (x2834, y2834), (x2849, y2849), (x2855, y2855), (x2859, y2859), (x2863, y2863), (x2867, y2867), (x2873, y2873), (x3243, y3243), (x3322, y3322), (x3337, y3337), (x3343, y3343), (x3347, y3347), (x3351, y3351), (x3355, y3355), (x3359, y3359), (x3726, y3726), (x3805, y3805), (x3820, y3820), (x3826, y3826), (x3830, y3830), (x3834, y3834), (x3838, y3838), (x3844, y3844), (x4213, y4213), (x4292, y4292), (x4307, y4307), (x4313, y4313), (x4317, y4317), (x4321, y4321), (x4325, y4325), (x4329, y4329), (x4697, y4697), (x4776, y4776), (x4791, y4791), (x4797, y4797), (x4801, y4801), (x4805, y4805), (x4809, y4809), (x4815, y4815), (x5185, y5185), (x5259, y5259), (x5274, y5274), (x5280, y5280), (x5284, y5284), (x5288, y5288), (x5292, y5292), (x5296, y5296), (x5664, y5664), (x5738, y5738), (x5753, y5753), (x5759, y5759), (x5763, y5763), (x5767, y5767), (x5771, y5771), (x5777, y5777), (x6144, y6144), (x6217, y6217), (x6232, y6232), (x6238, y6238), (x6242, y6242), (x6246, y6246), (x6250, y6250), (x6254, y6254), (x6619, y6619), (x6692, y6692), (x6707, y6707), (x6713, y6713), (x6717, y6717), (x6721, y6721), (x6725, y6725), (x6731, y6731)]),
  (80, [(x778, y778)]),
  (61, [(x788, y788), (x909, y909), (x1078, y1078), (x1110, y1110), (x2337, y2337), (x2818, y2818), (x3306, y3306), (x3789, y3789), (x4276, y4276), (x4760, y4760), (x5243, y5243), (x5722, y5722), (x6201, y6201), (x6676, y6676)]),
  (121, [(x1035, y1035), (x1130, y1130)]),
  (82, [(x1036, y1036)]),
  (171, [(x1041, y1041)]),
  (176, [(x1059, y1059)]),
  (168, [(x1060, y1060)]),
  (270, [(x1063, y1063)]),
  (211, [(x1067, y1067)]),
  (120, [(x1070, y1070)]),
  (122, [(x1087, y1087)]),
  (212, [(x1091, y1091)]),
  (30, [(x1132, y1132), (x1801, y1801), (x2291, y2291), (x2766, y2766), (x3251, y3251), (x3734, y3734), (x4221, y4221), (x4705, y4705), (x5193, y5193), (x5672, y5672), (x6152, y6152), (x6627, y6627)]),
  (127, [(x1144, y1144), (x1245, y1245), (x2298, y2298), (x3741, y3741), (x5200, y5200)]),
  (126, [(x1228, y1228)]),
  (193, [(x1246, y1246)]),
  (35, [(x1259, y1259), (x1824, y1824), (x2314, y2314), (x2789, y2789), (x3274, y3274), (x3757, y3757), (x4244, y4244), (x4728, y4728)]),
  (56, [(x1261, y1261)]),
  (90, [(x1280, y1280), (x1284, y1284), (x5217, y5217)]),
  (36, [(x1327, y1327), (x1859, y1859), (x2346, y2346), (x2827, y2827), (x4769, y4769), (x6685, y6685)]),
  (153, [(x1337, y1337)]),
  (67, [(x1340, y1340)]),
  (37, [(x1341, y1341), (x1867, y1867), (x2352, y2352), (x2833, y2833), (x3321, y3321), (x3804, y3804), (x4291, y4291), (x4775, y4775), (x5258, y5258), (x5737, y5737), (x6216, y6216), (x6691, y6691)]),
  (22, [(x1362, y1362), (x1369, y1369), (x3813, y3813), (x3815, y3815), (x4300, y4300), (x4301, y4301), (x4784, y4784), (x5267, y5267), (x5746, y5746), (x6225, y6225), (x6700, y6700)]),
  (12, [(x1383, y1383), (x2366, y2366), (x2846, y2846), (x3818, y3818), (x4304, y4304), (x5272, y5272), (x5750, y5750), (x6705, y6705)]),
  (66, [(x2830, y2830), (x4288, y4288), (x5734, y5734)]),
  (152, [(x3310, y3310), (x5247, y5247)])]
theorem all4 : AllT Known t4 := (consT (consE q52 trivial)
  (consT (consE q65 (consE q703 trivial))
  (consT (consE q67 trivial)
  (consT (consE q80 (consE q576 (consE q578 (consE q586 (consE q588 (consE q591 (consE q601 (consE q613 (consE q615 (consE q620 (consE q622 (consE q625 (consE q630 (consE q635 (consE q648 (consE q650 trivial))))))))))))))))
  (consT (consE q141 trivial)
  (consT (consE q500 trivial)
  (consT (consE q504 trivial)
  (consT (consE q511 (consE q1741 (consE q2231 (consE q2706 (consE q3191 (consE q3674 (consE q4161 (consE q4645 (consE q5133 (consE q5612 (consE q6092 (consE q6567 trivial))))))))))))
  (consT (consE q529 (consE q1746 (consE q2236 (consE q2711 (consE q3196 (consE q3679 (consE q4166 (consE q4650 (consE q5138 (consE q5617 (consE q6097 (consE q6572 trivial))))))))))))
  (consT (consE q532 trivial)
  (consT (consE q539 (consE q556 (consE q558 trivial)))
  (consT (consE q610 trivial)
  (consT (consE q697 (consE q792 (consE q803 (consE q1043 (consE q1051 trivial)))))
  (consT (consE q728 (consE q928 (consE q957 (consE q989 trivial))))
  (consT (consE q736 (consE q1066 trivial))
  (consT (consE q771 (consE q1023 (consE q1122 (consE q1793 (consE q1868 (consE q1885 (consE q1891 (consE q1897 (consE q1903 (consE q1908 (consE q1914 (consE q2283 (consE q2353 (consE q2368 (consE q2374 (consE q2378 (consE q2382 (consE q2386 (consE q2390 (consE q2758 (consE q2834 (consE q2849 (consE q2855 (consE q2859 (consE q2863 (consE q2867 (consE q2873 (consE q3243 (consE q3322 (consE q3337 (consE q3343 (consE q3347 (consE q3351 (consE q3355 (consE q3359 (consE q3726 (consE q3805 (consE q3820 (consE q3826 (consE q3830 (consE q3834 (consE q3838 (consE q3844 (consE q4213 (consE q4292 (consE q4307 (consE q4313 (consE q4317 (consE q4321 (consE q4325 (consE q4329 (consE q4697 (consE q4776 (consE q4791 (consE q4797 (consE q4801 (consE q4805 (consE q4809 (consE q4815 (consE q5185 (consE q5259 (consE q5274 (consE q5280 (consE q5284 (consE q5288 (consE q5292 (consE q5296 (consE q5664 (consE q5738 (consE q5753 (consE q5759 (consE q5763 (consE q5767 (consE q5771 (consE q5777 (consE q6144 (consE q6217 (consE q6232 (consE q6238 (consE q6242 (consE q6246 (consE q6250 (consE q6254 (consE q6619 (consE q6692 (consE q6707 (consE q6713 (consE q6717 (consE q6721 (consE q6725 (consE q6731 trivial)))))))))))))))))))))))))))))))))))))))))))))))))))))))))))))))))))))))))))))))))))))))))))
  (consT (consE q778 trivial)
  (consT (consE q788 (consE q909 (consE q1078 (consE q1110 (consE q2337 (consE q2818 (consE q3306 (consE q3789 (consE q4276 (consE q4760 (consE q5243 (consE q5722 (consE q6201 (consE q6676 trivial))))))))))))))
  (consT (consE q1035 (consE q1130 trivial))
  (consT (consE q1036 trivial)
  (consT (consE q1041 trivial)
  (consT (consE q1059 trivial)
  (consT (consE q1060 trivial)
  (consT (consE q1063 trivial)
  (consT (consE q1067 trivial)
  (consT (consE q1070 trivial)
  (consT (consE q1087 trivial)
  (consT (consE q1091 trivial)
  (consT (consE q1132 (consE q1801 (consE q2291 (consE q2766 (consE q3251 (consE q3734 (consE q4221 (consE q4705 (consE q5193 (consE q5672 (consE q6152 (consE q6627 trivial))))))))))))
  (consT (consE q1144 (consE q1245 (consE q2298 (consE q3741 (consE q5200 trivial)))))
  (consT (consE q1228 trivial)
  (consT (consE q1246 trivial)
  (consT (consE q1259 (consE q1824 (consE q2314 (consE q2789 (consE q3274 (consE q3757 (consE q4244 (consE q4728 trivial))))))))
  (consT (consE q1261 trivial)
  (consT (consE q1280 (consE q1284 (consE q5217 trivial)))
  (consT (consE q1327 (consE q1859 (consE q2346 (consE q2827 (consE q4769 (consE q6685 trivial))))))
  (consT (consE q1337 trivial)
  (consT (consE q1340 trivial)
  (consT (consE q1341 (consE q1867 (consE q2352 (consE q2833 (consE q3321 (consE q3804 (consE q4291 (consE q4775 (consE q5258 (consE q5737 (consE q6216 (consE q6691 trivial))))))))))))
  (consT (consE q1362 (consE q1369 (consE q3813 (consE q3815 (consE q4300 (consE q4301 (consE q4784 (consE q5267 (consE q5746 (consE q6225 (consE q6700 trivial)))))))))))
  (consT (consE q1383 (consE q2366 (consE q2846 (consE q3818 (consE q4304 (consE q5272 (consE q5750 (consE q6705 trivial))))))))
  (consT (consE q2830 (consE q4288 (consE q5734 trivial)))
  (consT (consE q3310 (consE q5247 trivial))
  trivial)))))))))))))))))))))))))))))))))))))))))))
end Go.Proofs.YtndojngcaohgnaaGreatDoor
