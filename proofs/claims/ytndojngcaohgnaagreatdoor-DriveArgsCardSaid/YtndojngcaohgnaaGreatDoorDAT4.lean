/- The calls that are known by stage 4. -/
import Derived.Test.YtndojngcaohgnaaGreatDoorDAM4A
set_option linter.unusedVariables false
set_option linter.unusedSectionVars false
set_option linter.unusedSimpArgs false
set_option linter.unnecessarySimpa false
namespace Go.Proofs.YtndojngcaohgnaaGreatDoor
open Go Go.Ev
noncomputable def t4 : MT := [(25, [(x63, y63), (x270, y270), (x1024, y1024)]),
  (163, [(x65, y65), (x371, y371)]),
  (26, [(x71, y71), (x282, y282)]),
  (116, [(x80, y80)]),
  (30, [(x106, y106), (x480, y480), (x1092, y1092)]),
  (35, [(x118, y118), (x532, y532)]),
  (36, [(x128, y128), (x576, y576)]),
  (8, [(x141, y141)]),
  (214, [(x411, y411), (x498, y498)]),
  (61, [(x440, y440), (x455, y455), (x820, y820), (x834, y834), (x1281, y1281)]),
  (80, [(x479, y479)]),
  (37, [(x601, y601)]),
  (205, [(x783, y783)]),
  (270, [(x796, y796)]),
  (271, [(x808, y808)]),
  (120, [(x822, y822), (x828, y828)]),
  (127, [(x858, y858)])]
theorem all4 : AllT Known t4 := (consT (consE q63 (consE q270 (consE q1024 trivial)))
  (consT (consE q65 (consE q371 trivial))
  (consT (consE q71 (consE q282 trivial))
  (consT (consE q80 trivial)
  (consT (consE q106 (consE q480 (consE q1092 trivial)))
  (consT (consE q118 (consE q532 trivial))
  (consT (consE q128 (consE q576 trivial))
  (consT (consE q141 trivial)
  (consT (consE q411 (consE q498 trivial))
  (consT (consE q440 (consE q455 (consE q820 (consE q834 (consE q1281 trivial)))))
  (consT (consE q479 trivial)
  (consT (consE q601 trivial)
  (consT (consE q783 trivial)
  (consT (consE q796 trivial)
  (consT (consE q808 trivial)
  (consT (consE q822 (consE q828 trivial))
  (consT (consE q858 trivial)
  trivial)))))))))))))))))
end Go.Proofs.YtndojngcaohgnaaGreatDoor
