/- The calls that are known by stage 4. -/
import Derived.Test.YtmhemnlcgjebkaaGreatDoorUMM4A
set_option linter.unusedVariables false
set_option linter.unusedSectionVars false
set_option linter.unusedSimpArgs false
set_option linter.unnecessarySimpa false
namespace Go.Proofs.YtmhemnlcgjebkaaGreatDoor
open Go Go.Ev
noncomputable def t4 : MT := [(42, [(x4, y4)]),
  (41, [(x5, y5)]),
  (4, [(x11, y11)]),
  (21, [(x29, y29), (x46, y46), (x59, y59), (x72, y72), (x85, y85), (x98, y98), (x111, y111), (x124, y124), (x137, y137), (x150, y150), (x163, y163), (x176, y176), (x189, y189), (x202, y202), (x215, y215), (x228, y228), (x241, y241), (x254, y254), (x267, y267), (x280, y280), (x293, y293), (x306, y306), (x319, y319), (x332, y332), (x345, y345), (x358, y358), (x478, y478), (x485, y485), (x492, y492), (x499, y499), (x506, y506), (x513, y513), (x520, y520)]),
  (48, [(x34, y34)]),
  (52, [(x35, y35), (x48, y48), (x61, y61), (x74, y74), (x87, y87), (x100, y100), (x113, y113), (x126, y126), (x139, y139), (x152, y152), (x165, y165), (x178, y178), (x191, y191), (x204, y204), (x217, y217), (x230, y230), (x243, y243), (x256, y256)]),
  (51, [(x271, y271), (x284, y284), (x297, y297), (x310, y310), (x323, y323), (x336, y336), (x349, y349), (x362, y362), (x375, y375), (x591, y591), (x726, y726)])]
theorem all4 : AllT Known t4 := (consT (consE q4 trivial)
  (consT (consE q5 trivial)
  (consT (consE q11 trivial)
  (consT (consE q29 (consE q46 (consE q59 (consE q72 (consE q85 (consE q98 (consE q111 (consE q124 (consE q137 (consE q150 (consE q163 (consE q176 (consE q189 (consE q202 (consE q215 (consE q228 (consE q241 (consE q254 (consE q267 (consE q280 (consE q293 (consE q306 (consE q319 (consE q332 (consE q345 (consE q358 (consE q478 (consE q485 (consE q492 (consE q499 (consE q506 (consE q513 (consE q520 trivial)))))))))))))))))))))))))))))))))
  (consT (consE q34 trivial)
  (consT (consE q35 (consE q48 (consE q61 (consE q74 (consE q87 (consE q100 (consE q113 (consE q126 (consE q139 (consE q152 (consE q165 (consE q178 (consE q191 (consE q204 (consE q217 (consE q230 (consE q243 (consE q256 trivial))))))))))))))))))
  (consT (consE q271 (consE q284 (consE q297 (consE q310 (consE q323 (consE q336 (consE q349 (consE q362 (consE q375 (consE q591 (consE q726 trivial)))))))))))
  trivial)))))))
end Go.Proofs.YtmhemnlcgjebkaaGreatDoor
