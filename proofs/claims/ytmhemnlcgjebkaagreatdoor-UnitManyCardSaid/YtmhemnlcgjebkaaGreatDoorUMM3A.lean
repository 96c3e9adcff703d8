/- Calls of stage 3. -/
import Derived.Test.YtmhemnlcgjebkaaGreatDoorUMT2
set_option linter.unusedVariables false
set_option linter.unusedSectionVars false
set_option linter.unusedSimpArgs false
set_option linter.unnecessarySimpa false
namespace Go.Proofs.YtmhemnlcgjebkaaGreatDoor
open Go Go.Ev
theorem q11 : Known 4 x11 y11 := knownT all2 (n := 399) (by kernel_rfl)
theorem q46 : Known 21 x46 y46 := knownT all2 (n := 399) (by kernel_rfl)
theorem q59 : Known 21 x59 y59 := knownT all2 (n := 399) (by kernel_rfl)
theorem q72 : Known 21 x72 y72 := knownT all2 (n := 399) (by kernel_rfl)
theorem q85 : Known 21 x85 y85 := knownT all2 (n := 399) (by kernel_rfl)
theorem q98 : Known 21 x98 y98 := knownT all2 (n := 399) (by kernel_rfl)
theorem q111 : Known 21 x111 y111 := knownT all2 (n := 399) (by kernel_rfl)
theorem q124 : Known 21 x124 y124 := knownT all2 (n := 399) (by kernel_rfl)
theorem q137 : Known 21 x137 y137 := knownT all2 (n := 399) (by kernel_rfl)
theorem q150 : Known 21 x150 y150 := knownT all2 (n := 399) (by kernel_rfl)
theorem q163 : Known 21 x163 y163 := knownT all2 (n := 399) (by kernel_rfl)
theorem q176 : Known 21 x176 y176 := knownT all2 (n := 399) (by kernel_rfl)
theorem q189 : Known 21 x189 y189 := knownT all2 (n := 399) (by kernel_rfl)
theorem q202 : Known 21 x202 y202 := knownT all2 (n := 399) (by kernel_rfl)
theorem q215 : Known 21 x215 y215 := knownT all2 (n := 399) (by kernel_rfl)
theorem q228 : Known 21 x228 y228 := knownT all2 (n := 399) (by kernel_rfl)
theorem q241 : Known 21 x241 y241 := knownT all2 (n := 399) (by kernel_rfl)
theorem q254 : Known 21 x254 y254 := knownT all2 (n := 399) (by kernel_rfl)
theorem q267 : Known 21 x267 y267 := knownT all2 (n := 399) (by kernel_rfl)
theorem q271 : Known 51 x271 y271 := knownT all2 (n := 399) (by kernel_rfl)
theorem q284 : Known 51 x284 y284 := knownT all2 (n := 399) (by kernel_rfl)
theorem q297 : Known 51 x297 y297 := knownT all2 (n := 399) (by kernel_rfl)
theorem q310 : Known 51 x310 y310 := knownT all2 (n := 399) (by kernel_rfl)
theorem q323 : Known 51 x323 y323 := knownT all2 (n := 399) (by kernel_rfl)
theorem q336 : Known 51 x336 y336 := knownT all2 (n := 399) (by kernel_rfl)
theorem q349 : Known 51 x349 y349 := knownT all2 (n := 399) (by kernel_rfl)
theorem q362 : Known 51 x362 y362 := knownT all2 (n := 399) (by kernel_rfl)
theorem q375 : Known 51 x375 y375 := knownT all2 (n := 399) (by kernel_rfl)
theorem q478 : Known 21 x478 y478 := knownT all2 (n := 399) (by kernel_rfl)
theorem q485 : Known 21 x485 y485 := knownT all2 (n := 399) (by kernel_rfl)
theorem q492 : Known 21 x492 y492 := knownT all2 (n := 399) (by kernel_rfl)
theorem q499 : Known 21 x499 y499 := knownT all2 (n := 399) (by kernel_rfl)
theorem q506 : Known 21 x506 y506 := knownT all2 (n := 399) (by kernel_rfl)
theorem q513 : Known 21 x513 y513 := knownT all2 (n := 399) (by kernel_rfl)
theorem q520 : Known 21 x520 y520 := knownT all2 (n := 399) (by kernel_rfl)
theorem q591 : Known 51 x591 y591 := knownT all2 (n := 399) (by kernel_rfl)
theorem q726 : Known 51 x726 y726 := knownT all2 (n := 399) (by kernel_rfl)
end Go.Proofs.YtmhemnlcgjebkaaGreatDoor
