/- The calls that are known by stage 1. -/
import Derived.Test.YtndojngcaohgnaaGreatDoorDPM1A
import Derived.Test.YtndojngcaohgnaaGreatDoorDPM1B
import Derived.Test.YtndojngcaohgnaaGreatDoorDPM1C
import Derived.Test.YtndojngcaohgnaaGreatDoorDPM1D
import Derived.Test.YtndojngcaohgnaaGreatDoorDPM1E
set_option linter.unusedVariables false
set_option linter.unusedSectionVars false
set_option linter.unusedSimpArgs false
set_option linter.unnecessarySimpa false
namespace Go.Proofs.YtndojngcaohgnaaGreatDoor
open Go Go.Ev
noncomputable def t1 : MT := [(113, [(x52, y52)]),
  (163, [(x65, y65), (x703, y703)]),
  (116, [(x80, y80), (x576, y576), (x578, y578), (x586, y586), (x588, y588), (x591, y591), (x601, y601), (x613, y613), (x615, y615), (x620, y620), (x622, y622), (x625, y625), (x630, y630), (x635, y635), (x648, y648), (x650, y650)]),
  (71, [(x500, y500)]),
  (72, [(x504, y504)]),
  (50, [(x539, y539), (x556, y556), (x558, y558)]),
  (202, [(x610, y610)]),
  (205, [(x697, y697), (x792, y792), (x803, y803), (x1051, y1051)]),
  (214, [(x728, y728), (x957, y957), (x989, y989)]),
  (33, [(x771, y771), (x1023, y1023), (x1122, y1122), (x1793, y1793), (x1868, y1868), (x1885, y1885), (x1891, y1891), (x1897, y1897), (x1903, y1903), (x1908, y1908), (x1914, y1914), (x2283, y2283), (x2353, y2353), (x2368, y2368), (x2374, y2374), (x2378, y2378), (x2382, y2382), (x2386, y2386), (x2390, y2390), (x2758, y2758), (x2834, y2834), (x2849, y2849), (x2855, y2855), (x2859, y2859), (x2863, y2863), (x2867, y2867), (x2873, y2873), (x3243, y3243), (x3322, y3322), (x3337, y3337), (x3343, y3343), (x3347, y3347), (x3351, y3351), (x3355, y3355), (x3359, y3359), (x3726, y3726), (x3805, y3805), (x3820, y3820), (x3826, y3826), (x3830, y3830), (x3834, y3834), (x3838, y3838), (x3844, y3844), (x4213, y4213), (x4292, y4292), (x4307, y4307), (x4313, y4313), (x4317, y4317), (x4321, y4321), (x4325, y4325), (x4329, y4329), (x4697, y4697), (x4776, y4776), (x4791, y4791), (x4797, y4797), (x4801, y4801), (x4805, y4805), (x4809, y4809), (x4815, y4815), (x5185, y5185), (x5259, y5259), (x5274, y5274), (x5280, y5280), (x5284, y5284), (x5288, y5288), (x5292, y5292), (x5296, y5296), (x5664, y5664), (x5738, y5738), (x5753, y5753), (x5759, y5759), (x5763, y5763), (x5767, y5767), (x5771, y5771), (x5777, y5777), (x6144, y6144), (x6217, y6217), (x6232, y6232), (x6238, y6238), (x6242, y6242), (x6246, y6246), (x6250, y6250), (x6254, y6254), (x6619, y6619), (x6692, y6692), (x6707, y6707), (x6713, y6713), (x6717, y6717), (x6721, y6721), (x6725, y6725), (x6731, y6731)]),
  (61, [(x788, y788), (x909, y909), (x1078, y1078), (x1110, y1110)]),
  (121, [(x1035, y1035), (x1130, y1130)]),
  (168, [(x1060, y1060)]),
  (211, [(x1067, y1067)]),
  (56, [(x1261, y1261)]),
  (90, [(x1280, y1280), (x1284, y1284), (x5217, y5217)]),
  (153, [(x1337, y1337)]),
  (67, [(x1340, y1340)]),
  (22, [(x1362, y1362), (x1369, y1369), (x3815, y3815), (x4301, y4301)]),
  (12, [(x1383, y1383), (x2366, y2366), (x2846, y2846)]),
  (66, [(x2830, y2830)]),
  (152, [(x3310, y3310)])]
theorem all1 : AllT Known t1 := (consT (consE q52 trivial)
  (consT (consE q65 (consE q703 trivial))
  (consT (consE q80 (consE q576 (consE q578 (consE q586 (consE q588 (consE q591 (consE q601 (consE q613 (consE q615 (consE q620 (consE q622 (consE q625 (consE q630 (consE q635 (consE q648 (consE q650 trivial))))))))))))))))
  (consT (consE q500 trivial)
  (consT (consE q504 trivial)
  (consT (consE q539 (consE q556 (consE q558 trivial)))
  (consT (consE q610 trivial)
  (consT (consE q697 (consE q792 (consE q803 (consE q1051 trivial))))
  (consT (consE q728 (consE q957 (consE q989 trivial)))
  (consT (consE q771 (consE q1023 (consE q1122 (consE q1793 (consE q1868 (consE q1885 (consE q1891 (consE q1897 (consE q1903 (consE q1908 (consE q1914 (consE q2283 (consE q2353 (consE q2368 (consE q2374 (consE q2378 (consE q2382 (consE q2386 (consE q2390 (consE q2758 (consE q2834 (consE q2849 (consE q2855 (consE q2859 (consE q2863 (consE q2867 (consE q2873 (consE q3243 (consE q3322 (consE q3337 (consE q3343 (consE q3347 (consE q3351 (consE q3355 (consE q3359 (consE q3726 (consE q3805 (consE q3820 (consE q3826 (consE q3830 (consE q3834 (consE q3838 (consE q3844 (consE q4213 (consE q4292 (consE q4307 (consE q4313 (consE q4317 (consE q4321 (consE q4325 (consE q4329 (consE q4697 (consE q4776 (consE q4791 (consE q4797 (consE q4801 (consE q4805 (consE q4809 (consE q4815 (consE q5185 (consE q5259 (consE q5274 (consE q5280 (consE q5284 (consE q5288 (consE q5292 (consE q5296 (consE q5664 (consE q5738 (consE q5753 (consE q5759 (consE q5763 (consE q5767 (consE q5771 (consE q5777 (consE q6144 (consE q6217 (consE q6232 (consE q6238 (consE q6242 (consE q6246 (consE q6250 (consE q6254 (consE q6619 (consE q6692 (consE q6707 (consE q6713 (consE q6717 (consE q6721 (consE q6725 (consE q6731 trivial)))))))))))))))))))))))))))))))))))))))))))))))))))))))))))))))))))))))))))))))))))))))))))
  (consT (consE q788 (consE q909 (consE q1078 (consE q1110 trivial))))
  (consT (consE q1035 (consE q1130 trivial))
  (consT (consE q1060 trivial)
  (consT (consE q1067 trivial)
  (consT (consE q1261 trivial)
  (consT (consE q1280 (consE q1284 (consE q5217 trivial)))
  (consT (consE q1337 trivial)
  (consT (consE q1340 trivial)
  (consT (consE q1362 (consE q1369 (consE q3815 (consE q4301 trivial))))
  (consT (consE q1383 (consE q2366 (consE q2846 trivial)))
  (consT (consE q2830 trivial)
  (consT (consE q3310 trivial)
  trivial))))))))))))))))))))))
end Go.Proofs.YtndojngcaohgnaaGreatDoor
