/- The calls that are known by stage 2. -/
import Derived.Test.YtmhemnlcgjebkaaGreatDoorUMM2A
set_option linter.unusedVariables false
set_option linter.unusedSectionVars false
set_option linter.unusedSimpArgs false
set_option linter.unnecessarySimpa false
namespace Go.Proofs.YtmhemnlcgjebkaaGreatDoor
open Go Go.Ev
noncomputable def t2 : MT := [(42, [(x4, y4)]),
  (41, [(x5, y5)]),
  (21, [(x29, y29)]),
  (48, [(x34, y34)]),
  (52, [(x35, y35), (x48, y48), (x61, y61), (x74, y74), (x87, y87), (x100, y100), (x113, y113), (x126, y126), (x139, y139), (x152, y152), (x165, y165), (x178, y178), (x191, y191), (x204, y204), (x217, y217), (x230, y230), (x243, y243), (x256, y256)])]
theorem all2 : AllT Known t2 := (consT (consE q4 trivial)
  (consT (consE q5 trivial)
  (consT (consE q29 trivial)
  (consT (consE q34 trivial)
  (consT (consE q35 (consE q48 (consE q61 (consE q74 (consE q87 (consE q100 (consE q113 (consE q126 (consE q139 (consE q152 (consE q165 (consE q178 (consE q191 (consE q204 (consE q217 (consE q230 (consE q243 (consE q256 trivial))))))))))))))))))
  trivial)))))
end Go.Proofs.YtmhemnlcgjebkaaGreatDoor
