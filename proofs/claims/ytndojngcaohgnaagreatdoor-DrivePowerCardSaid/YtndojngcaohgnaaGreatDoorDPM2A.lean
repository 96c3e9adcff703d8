/- Calls of stage 2. -/
import Derived.Test.YtndojngcaohgnaaGreatDoorDPT1
set_option linter.unusedVariables false
set_option linter.unusedSectionVars false
set_option linter.unusedSimpArgs false
set_option linter.unnecessarySimpa false
namespace Go.Proofs.YtndojngcaohgnaaGreatDoor
open Go Go.Ev
theorem q67 : Known 74 x67 y67 := knownT all1 (n := 399) (by kernel_rfl)
theorem q511 : Known 44 x511 y511 := knownT all1 (n := 399) (by kernel_rfl)
theorem q532 : Known 49 x532 y532 := knownT all1 (n := 399) (by kernel_rfl)
theorem q736 : Known 271 x736 y736 := knownT all1 (n := 399) (by kernel_rfl)
theorem q928 : Known 214 x928 y928 := knownT all1 (n := 399) (by kernel_rfl)
theorem q1041 : Known 171 x1041 y1041 := knownT all1 (n := 399) (by kernel_rfl)
theorem q1043 : Known 205 x1043 y1043 := knownT all1 (n := 399) (by kernel_rfl)
theorem q1059 : Known 176 x1059 y1059 := knownT all1 (n := 399) (by kernel_rfl)
theorem q1063 : Known 270 x1063 y1063 := knownT all1 (n := 399) (by kernel_rfl)
theorem q1066 : Known 271 x1066 y1066 := knownT all1 (n := 399) (by kernel_rfl)
theorem q1070 : Known 120 x1070 y1070 := knownT all1 (n := 399) (by kernel_rfl)
theorem q1087 : Known 122 x1087 y1087 := knownT all1 (n := 399) (by kernel_rfl)
theorem q1091 : Known 212 x1091 y1091 := knownT all1 (n := 399) (by kernel_rfl)
theorem q1144 : Known 127 x1144 y1144 := knownT all1 (n := 399) (by kernel_rfl)
theorem q1246 : Known 193 x1246 y1246 := knownT all1 (n := 399) (by kernel_rfl)
theorem q1327 : Known 36 x1327 y1327 := knownT all1 (n := 399) (by kernel_rfl)
theorem q1341 : Known 37 x1341 y1341 := knownT all1 (n := 399) (by kernel_rfl)
theorem q1741 : Known 44 x1741 y1741 := knownT all1 (n := 399) (by kernel_rfl)
end Go.Proofs.YtndojngcaohgnaaGreatDoor
