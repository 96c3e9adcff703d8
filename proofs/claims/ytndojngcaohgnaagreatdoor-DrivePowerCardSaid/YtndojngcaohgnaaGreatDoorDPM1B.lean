/- Calls of stage 1. -/
import Derived.Test.YtndojngcaohgnaaGreatDoorDPVA
set_option linter.unusedVariables false
set_option linter.unusedSectionVars false
set_option linter.unusedSimpArgs false
set_option linter.unnecessarySimpa false
namespace Go.Proofs.YtndojngcaohgnaaGreatDoor
open Go Go.Ev
theorem q2374 : Known 33 x2374 y2374 := knownT all0 (n := 399) (by kernel_rfl)
theorem q2378 : Known 33 x2378 y2378 := knownT all0 (n := 399) (by kernel_rfl)
theorem q2382 : Known 33 x2382 y2382 := knownT all0 (n := 399) (by kernel_rfl)
theorem q2386 : Known 33 x2386 y2386 := knownT all0 (n := 399) (by kernel_rfl)
theorem q2390 : Known 33 x2390 y2390 := knownT all0 (n := 399) (by kernel_rfl)
theorem q2758 : Known 33 x2758 y2758 := knownT all0 (n := 399) (by kernel_rfl)
theorem q2830 : Known 66 x2830 y2830 := knownT all0 (n := 399) (by kernel_rfl)
theorem q2834 : Known 33 x2834 y2834 := knownT all0 (n := 399) (by kernel_rfl)
theorem q2846 : Known 12 x2846 y2846 := knownT all0 (n := 399) (by kernel_rfl)
theorem q2849 : Known 33 x2849 y2849 := knownT all0 (n := 399) (by kernel_rfl)
theorem q2855 : Known 33 x2855 y2855 := knownT all0 (n := 399) (by kernel_rfl)
theorem q2859 : Known 33 x2859 y2859 := knownT all0 (n := 399) (by kernel_rfl)
theorem q2863 : Known 33 x2863 y2863 := knownT all0 (n := 399) (by kernel_rfl)
theorem q2867 : Known 33 x2867 y2867 := knownT all0 (n := 399) (by kernel_rfl)
theorem q2873 : Known 33 x2873 y2873 := knownT all0 (n := 399) (by kernel_rfl)
theorem q3243 : Known 33 x3243 y3243 := knownT all0 (n := 399) (by kernel_rfl)
theorem q3310 : Known 152 x3310 y3310 := knownT all0 (n := 399) (by kernel_rfl)
theorem q3322 : Known 33 x3322 y3322 := knownT all0 (n := 399) (by kernel_rfl)
theorem q3337 : Known 33 x3337 y3337 := knownT all0 (n := 399) (by kernel_rfl)
theorem q3343 : Known 33 x3343 y3343 := knownT all0 (n := 399) (by kernel_rfl)
theorem q3347 : Known 33 x3347 y3347 := knownT all0 (n := 399) (by kernel_rfl)
theorem q3351 : Known 33 x3351 y3351 := knownT all0 (n := 399) (by kernel_rfl)
theorem q3355 : Known 33 x3355 y3355 := knownT all0 (n := 399) (by kernel_rfl)
theorem q3359 : Known 33 x3359 y3359 := knownT all0 (n := 399) (by kernel_rfl)
theorem q3726 : Known 33 x3726 y3726 := knownT all0 (n := 399) (by kernel_rfl)
theorem q3805 : Known 33 x3805 y3805 := knownT all0 (n := 399) (by kernel_rfl)
theorem q3815 : Known 22 x3815 y3815 := knownT all0 (n := 399) (by kernel_rfl)
theorem q3820 : Known 33 x3820 y3820 := knownT all0 (n := 399) (by kernel_rfl)
theorem q3826 : Known 33 x3826 y3826 := knownT all0 (n := 399) (by kernel_rfl)
theorem q3830 : Known 33 x3830 y3830 := knownT all0 (n := 399) (by kernel_rfl)
theorem q3834 : Known 33 x3834 y3834 := knownT all0 (n := 399) (by kernel_rfl)
theorem q3838 : Known 33 x3838 y3838 := knownT all0 (n := 399) (by kernel_rfl)
theorem q3844 : Known 33 x3844 y3844 := knownT all0 (n := 399) (by kernel_rfl)
end Go.Proofs.YtndojngcaohgnaaGreatDoor
