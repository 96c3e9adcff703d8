/- The interpreter's tables for this program. -/
import Derived.Test.YthndchidnkbgiaaGreatDoorProg
import Derived.Test.YthndchidnkbgiaaGreatDoorEvE
import Derived.Test.YthndchidnkbgiaaGreatDoorEvD
import Derived.KernelRfl
import Derived.Test.YthndchidnkbgiaaGreatDoorChecked
set_option linter.unusedVariables false
set_option linter.unusedSectionVars false
set_option linter.unusedSimpArgs false
set_option linter.unnecessarySimpa false
namespace Go.Proofs.YthndchidnkbgiaaGreatDoor
open Go Go.Ev
def ascii : List CV := [.int .u8 0, .int .u8 0, .int .u8 0, .int .u8 0, .int .u8 0, .int .u8 0, .int .u8 0, .int .u8 0, .int .u8 0, .int .u8 1, .int .u8 1, .int .u8 1, .int .u8 1, .int .u8 1, .int .u8 0, .int .u8 0, .int .u8 0, .int .u8 0, .int .u8 0, .int .u8 0, .int .u8 0, .int .u8 0, .int .u8 0, .int .u8 0, .int .u8 0, .int .u8 0, .int .u8 0, .int .u8 0, .int .u8 0, .int .u8 0, .int .u8 0, .int .u8 0, .int .u8 1, .int .u8 0, .int .u8 0, .int .u8 0, .int .u8 0, .int .u8 0, .int .u8 0, .int .u8 0, .int .u8 0, .int .u8 0, .int .u8 0, .int .u8 0, .int .u8 0, .int .u8 0, .int .u8 0, .int .u8 0, .int .u8 0, .int .u8 0, .int .u8 0, .int .u8 0, .int .u8 0, .int .u8 0, .int .u8 0, .int .u8 0, .int .u8 0, .int .u8 0, .int .u8 0, .int .u8 0, .int .u8 0, .int .u8 0, .int .u8 0, .int .u8 0, .int .u8 0, .int .u8 0, .int .u8 0, .int .u8 0, .int .u8 0, .int .u8 0, .int .u8 0, .int .u8 0, .int .u8 0, .int .u8 0, .int .u8 0, .int .u8 0, .int .u8 0, .int .u8 0, .int .u8 0, .int .u8 0, .int .u8 0, .int .u8 0, .int .u8 0, .int .u8 0, .int .u8 0, .int .u8 0, .int .u8 0, .int .u8 0, .int .u8 0, .int .u8 0, .int .u8 0, .int .u8 0, .int .u8 0, .int .u8 0, .int .u8 0, .int .u8 0, .int .u8 0, .int .u8 0, .int .u8 0, .int .u8 0, .int .u8 0, .int .u8 0, .int .u8 0, .int .u8 0, .int .u8 0, .int .u8 0, .int .u8 0, .int .u8 0, .int .u8 0, .int .u8 0, .int .u8 0, .int .u8 0, .int .u8 0, .int .u8 0, .int .u8 0, .int .u8 0, .int .u8 0, .int .u8 0, .int .u8 0, .int .u8 0, .int .u8 0, .int .u8 0, .int .u8 0, .int .u8 0, .int .u8 0, .int .u8 0, .int .u8 0, .int .u8 0, .int .u8 0, .int .u8 0, .int .u8 0, .int .u8 0, .int .u8 0, .int .u8 0, .int .u8 0, .int .u8 0, .int .u8 0, .int .u8 0, .int .u8 0, .int .u8 0, .int .u8 0, .int .u8 0, .int .u8 0, .int .u8 0, .int .u8 0, .int .u8 0, .int .u8 0, .int .u8 0, .int .u8 0, .int .u8 0, .int .u8 0, .int .u8 0, .int .u8 0, .int .u8 0, .int .u8 0, .int .u8 0, .int .u8 0, .int .u8 0, .int .u8 0, .int .u8 0, .int .u8 0, .int .u8 0, .int .u8 0, .int .u8 0, .int .u8 0, .int .u8 0, .int .u8 0, .int .u8 0, .int .u8 0, .int .u8 0, .int .u8 0, .int .u8 0, .int .u8 0, .int .u8 0, .int .u8 0, .int .u8 0, .int .u8 0, .int .u8 0, .int .u8 0, .int .u8 0, .int .u8 0, .int .u8 0, .int .u8 0, .int .u8 0, .int .u8 0, .int .u8 0, .int .u8 0, .int .u8 0, .int .u8 0, .int .u8 0, .int .u8 0, .int .u8 0, .int .u8 0, .int .u8 0, .int .u8 0, .int .u8 0, .int .u8 0, .int .u8 0, .int .u8 0, .int .u8 0, .int .u8 0, .int .u8 0, .int .u8 0, .int .u8 0, .int .u8 0, .int .u8 0, .int .u8 0, .int .u8 0, .int .u8 0, .int .u8 0, .int .u8 0, .int .u8 0, .int .u8 0, .int .u8 0, .int .u8 0, .int .u8 0, .int .u8 0, .int .u8 0, .int .u8 0, .int .u8 0, .int .u8 0, .int .u8 0, .int .u8 0, .int .u8 0, .int .u8 0, .int .u8 0, .int .u8 0, .int .u8 0, .int .u8 0, .int .u8 0, .int .u8 0, .int .u8 0, .int .u8 0, .int .u8 0, .int .u8 0, .int .u8 0, .int .u8 0, .int .u8 0, .int .u8 0, .int .u8 0, .int .u8 0, .int .u8 0, .int .u8 0, .int .u8 0, .int .u8 0, .int .u8 0, .int .u8 0, .int .u8 0, .int .u8 0, .int .u8 0, .int .u8 0, .int .u8 0, .int .u8 0, .int .u8 0, .int .u8 0, .int .u8 0]
instance glob : Glob := ⟨(fun g => match g with | 0 => some (true, .ag ascii) | _ => none), true⟩
noncomputable def types : List (List TypeInfo) := [[Go.Proofs.Tryz.t0, Go.Proofs.Tryz.t1, Go.Proofs.Tryz.t2, Go.Proofs.Tryz.t3, Go.Proofs.Tryz.t4, Go.Proofs.Tryz.t5, Go.Proofs.Tryz.t6, Go.Proofs.Tryz.t7, Go.Proofs.Tryz.t8, Go.Proofs.Tryz.t9, Go.Proofs.Tryz.t10, Go.Proofs.Tryz.t11, Go.Proofs.Tryz.t12, Go.Proofs.Tryz.t13, Go.Proofs.Tryz.t14, Go.Proofs.Tryz.t15],
  [Go.Proofs.Tryz.t16, Go.Proofs.Tryz.t17, Go.Proofs.Tryz.t18, Go.Proofs.Tryz.t19, Go.Proofs.Tryz.t20, Go.Proofs.Tryz.t21, Go.Proofs.Tryz.t22, Go.Proofs.Tryz.t23, Go.Proofs.Tryz.t24, Go.Proofs.Tryz.t25, Go.Proofs.Tryz.t26, Go.Proofs.Tryz.t27, Go.Proofs.Tryz.t28, Go.Proofs.Tryz.t29, Go.Proofs.Tryz.t30, Go.Proofs.Tryz.t31],
  [Go.Proofs.Tryz.t32, Go.Proofs.Tryz.t33, Go.Proofs.Tryz.t34, Go.Proofs.Tryz.t35, Go.Proofs.Tryz.t36, Go.Proofs.Tryz.t37, Go.Proofs.Tryz.t38, Go.Proofs.Tryz.t39, Go.Proofs.Tryz.t40, Go.Proofs.Tryz.t41, Go.Proofs.Tryz.t42, Go.Proofs.Tryz.t43, Go.Proofs.Tryz.t44, Go.Proofs.Tryz.t45, Go.Proofs.Tryz.t46, Go.Proofs.Tryz.t47],
  [Go.Proofs.Tryz.t48, Go.Proofs.Tryz.t49, Go.Proofs.Tryz.t50, Go.Proofs.Tryz.t51, Go.Proofs.Tryz.t52, Go.Proofs.Tryz.t53, Go.Proofs.Tryz.t54, Go.Proofs.Tryz.t55, Go.Proofs.Tryz.t56, Go.Proofs.Tryz.t57, Go.Proofs.Tryz.t58, Go.Proofs.Tryz.t59, Go.Proofs.Tryz.t60, Go.Proofs.Tryz.t61, Go.Proofs.Tryz.t62, Go.Proofs.Tryz.t63],
  [Go.Proofs.Tryz.t64, Go.Proofs.Tryz.t65, Go.Proofs.Tryz.t66, Go.Proofs.Tryz.t67, Go.Proofs.Tryz.t68, Go.Proofs.Tryz.t69, Go.Proofs.Tryz.t70, Go.Proofs.Tryz.t71, Go.Proofs.Tryz.t72, Go.Proofs.Tryz.t73, Go.Proofs.Tryz.t74, Go.Proofs.Tryz.t75, Go.Proofs.Tryz.t76, Go.Proofs.Tryz.t77, Go.Proofs.Tryz.t78, Go.Proofs.Tryz.t79],
  [Go.Proofs.Tryz.t80, Go.Proofs.Tryz.t81, Go.Proofs.Tryz.t82, Go.Proofs.Tryz.t83, Go.Proofs.Tryz.t84, Go.Proofs.Tryz.t85, Go.Proofs.Tryz.t86, Go.Proofs.Tryz.t87, Go.Proofs.Tryz.t88, Go.Proofs.Tryz.t89, Go.Proofs.Tryz.t90, Go.Proofs.Tryz.t91, Go.Proofs.Tryz.t92, Go.Proofs.Tryz.t93, Go.Proofs.Tryz.t94, Go.Proofs.Tryz.t95],
  [Go.Proofs.Tryz.t96, Go.Proofs.Tryz.t97, Go.Proofs.Tryz.t98, Go.Proofs.Tryz.t99, Go.Proofs.Tryz.t100, Go.Proofs.Tryz.t101, Go.Proofs.Tryz.t102, Go.Proofs.Tryz.t103, Go.Proofs.Tryz.t104, Go.Proofs.Tryz.t105, Go.Proofs.Tryz.t106, Go.Proofs.Tryz.t107, Go.Proofs.Tryz.t108, Go.Proofs.Tryz.t109, Go.Proofs.Tryz.t110, Go.Proofs.Tryz.t111],
  [Go.Proofs.Tryz.t112, Go.Proofs.Tryz.t113, Go.Proofs.Tryz.t114, Go.Proofs.Tryz.t115, Go.Proofs.Tryz.t116, Go.Proofs.Tryz.t117, Go.Proofs.Tryz.t118, Go.Proofs.Tryz.t119, Go.Proofs.Tryz.t120, Go.Proofs.Tryz.t121, Go.Proofs.Tryz.t122, Go.Proofs.Tryz.t123, Go.Proofs.Tryz.t124, Go.Proofs.Tryz.t125, Go.Proofs.Tryz.t126, Go.Proofs.Tryz.t127],
  [Go.Proofs.Tryz.t128, Go.Proofs.Tryz.t129, Go.Proofs.Tryz.t130, Go.Proofs.Tryz.t131, Go.Proofs.Tryz.t132, Go.Proofs.Tryz.t133, Go.Proofs.Tryz.t134, Go.Proofs.Tryz.t135, Go.Proofs.Tryz.t136, Go.Proofs.Tryz.t137, Go.Proofs.Tryz.t138, Go.Proofs.Tryz.t139, Go.Proofs.Tryz.t140, Go.Proofs.Tryz.t141, Go.Proofs.Tryz.t142, Go.Proofs.Tryz.t143],
  [Go.Proofs.Tryz.t144, Go.Proofs.Tryz.t145, Go.Proofs.Tryz.t146, Go.Proofs.Tryz.t147, Go.Proofs.Tryz.t148, Go.Proofs.Tryz.t149, Go.Proofs.Tryz.t150, Go.Proofs.Tryz.t151, Go.Proofs.Tryz.t152, Go.Proofs.Tryz.t153, Go.Proofs.Tryz.t154, Go.Proofs.Tryz.t155, Go.Proofs.Tryz.t156, Go.Proofs.Tryz.t157, Go.Proofs.Tryz.t158, Go.Proofs.Tryz.t159],
  [Go.Proofs.Tryz.t160, Go.Proofs.Tryz.t161, Go.Proofs.Tryz.t162, Go.Proofs.Tryz.t163, Go.Proofs.Tryz.t164, Go.Proofs.Tryz.t165, Go.Proofs.Tryz.t166, Go.Proofs.Tryz.t167, Go.Proofs.Tryz.t168, Go.Proofs.Tryz.t169, Go.Proofs.Tryz.t170, Go.Proofs.Tryz.t171, Go.Proofs.Tryz.t172, Go.Proofs.Tryz.t173, Go.Proofs.Tryz.t174, Go.Proofs.Tryz.t175],
  [Go.Proofs.Tryz.t176, Go.Proofs.Tryz.t177, Go.Proofs.Tryz.t178, Go.Proofs.Tryz.t179, Go.Proofs.Tryz.t180, Go.Proofs.Tryz.t181, Go.Proofs.Tryz.t182, Go.Proofs.Tryz.t183, Go.Proofs.Tryz.t184, Go.Proofs.Tryz.t185, Go.Proofs.Tryz.t186, Go.Proofs.Tryz.t187, Go.Proofs.Tryz.t188, Go.Proofs.Tryz.t189, Go.Proofs.Tryz.t190, Go.Proofs.Tryz.t191],
  [Go.Proofs.Tryz.t192, Go.Proofs.Tryz.t193, Go.Proofs.Tryz.t194, Go.Proofs.Tryz.t195, Go.Proofs.Tryz.t196, Go.Proofs.Tryz.t197, Go.Proofs.Tryz.t198, Go.Proofs.Tryz.t199, Go.Proofs.Tryz.t200, Go.Proofs.Tryz.t201, Go.Proofs.Tryz.t202, Go.Proofs.Tryz.t203, Go.Proofs.Tryz.t204, Go.Proofs.Tryz.t205, Go.Proofs.Tryz.t206, Go.Proofs.Tryz.t207],
  [Go.Proofs.Tryz.t208, Go.Proofs.Tryz.t209, Go.Proofs.Tryz.t210, Go.Proofs.Tryz.t211, Go.Proofs.Tryz.t212, Go.Proofs.Tryz.t213, Go.Proofs.Tryz.t214, Go.Proofs.Tryz.t215, Go.Proofs.Tryz.t216, Go.Proofs.Tryz.t217, Go.Proofs.Tryz.t218, Go.Proofs.Tryz.t219, Go.Proofs.Tryz.t220, Go.Proofs.Tryz.t221, Go.Proofs.Tryz.t222, Go.Proofs.Tryz.t223],
  [Go.Proofs.Tryz.t224, Go.Proofs.Tryz.t225, Go.Proofs.Tryz.t226, Go.Proofs.Tryz.t227, Go.Proofs.Tryz.t228, Go.Proofs.Tryz.t229, Go.Proofs.Tryz.t230, Go.Proofs.Tryz.t231, Go.Proofs.Tryz.t232, Go.Proofs.Tryz.t233, Go.Proofs.Tryz.t234, Go.Proofs.Tryz.t235, Go.Proofs.Tryz.t236, Go.Proofs.Tryz.t237, Go.Proofs.Tryz.t238, Go.Proofs.Tryz.t239],
  [Go.Proofs.Tryz.t240, Go.Proofs.Tryz.t241, Go.Proofs.Tryz.t242, Go.Proofs.Tryz.t243, Go.Proofs.Tryz.t244, Go.Proofs.Tryz.t245, Go.Proofs.Tryz.t246, Go.Proofs.Tryz.t247, Go.Proofs.Tryz.t248, Go.Proofs.Tryz.t249, Go.Proofs.Tryz.t250, Go.Proofs.Tryz.t251, Go.Proofs.Tryz.t252, Go.Proofs.Tryz.t253, Go.Proofs.Tryz.t254, Go.Proofs.Tryz.t255],
  [Go.Proofs.Tryz.t256, Go.Proofs.Tryz.t257, Go.Proofs.Tryz.t258, Go.Proofs.Tryz.t259, Go.Proofs.Tryz.t260, Go.Proofs.Tryz.t261, Go.Proofs.Tryz.t262, Go.Proofs.Tryz.t263, Go.Proofs.Tryz.t264, Go.Proofs.Tryz.t265, Go.Proofs.Tryz.t266, Go.Proofs.Tryz.t267, Go.Proofs.Tryz.t268, Go.Proofs.Tryz.t269, Go.Proofs.Tryz.t270, Go.Proofs.Tryz.t271],
  [Go.Proofs.Tryz.t272, Go.Proofs.Tryz.t273, Go.Proofs.Tryz.t274, Go.Proofs.Tryz.t275, Go.Proofs.Tryz.t276, Go.Proofs.Tryz.t277, Go.Proofs.Tryz.t278, Go.Proofs.Tryz.t279, Go.Proofs.Tryz.t280, Go.Proofs.Tryz.t281, Go.Proofs.Tryz.t282, Go.Proofs.Tryz.t283, Go.Proofs.Tryz.t284, Go.Proofs.Tryz.t285, Go.Proofs.Tryz.t286, Go.Proofs.Tryz.t287],
  [Go.Proofs.Tryz.t288, Go.Proofs.Tryz.t289, Go.Proofs.Tryz.t290, Go.Proofs.Tryz.t291, Go.Proofs.Tryz.t292, Go.Proofs.Tryz.t293, Go.Proofs.Tryz.t294, Go.Proofs.Tryz.t295, Go.Proofs.Tryz.t296, Go.Proofs.Tryz.t297, Go.Proofs.Tryz.t298, Go.Proofs.Tryz.t299, Go.Proofs.Tryz.t300, Go.Proofs.Tryz.t301, Go.Proofs.Tryz.t302, Go.Proofs.Tryz.t303],
  [Go.Proofs.Tryz.t304, Go.Proofs.Tryz.t305, Go.Proofs.Tryz.t306, Go.Proofs.Tryz.t307, Go.Proofs.Tryz.t308, Go.Proofs.Tryz.t309, Go.Proofs.Tryz.t310, Go.Proofs.Tryz.t311, Go.Proofs.Tryz.t312, Go.Proofs.Tryz.t313, Go.Proofs.Tryz.t314, Go.Proofs.Tryz.t315, Go.Proofs.Tryz.t316, Go.Proofs.Tryz.t317, Go.Proofs.Tryz.t318, Go.Proofs.Tryz.t319],
  [Go.Proofs.Tryz.t320, Go.Proofs.Tryz.t321, Go.Proofs.Tryz.t322, Go.Proofs.Tryz.t323, Go.Proofs.Tryz.t324, Go.Proofs.Tryz.t325, Go.Proofs.Tryz.t326, Go.Proofs.Tryz.t327, Go.Proofs.Tryz.t328, Go.Proofs.Tryz.t329, Go.Proofs.Tryz.t330, Go.Proofs.Tryz.t331, Go.Proofs.Tryz.t332, Go.Proofs.Tryz.t333, Go.Proofs.Tryz.t334, Go.Proofs.Tryz.t335],
  [Go.Proofs.Tryz.t336, Go.Proofs.Tryz.t337, Go.Proofs.Tryz.t338, Go.Proofs.Tryz.t339, Go.Proofs.Tryz.t340, Go.Proofs.Tryz.t341, Go.Proofs.Tryz.t342, Go.Proofs.Tryz.t343, Go.Proofs.Tryz.t344, Go.Proofs.Tryz.t345, Go.Proofs.Tryz.t346, Go.Proofs.Tryz.t347, Go.Proofs.Tryz.t348, Go.Proofs.Tryz.t349, Go.Proofs.Tryz.t350, Go.Proofs.Tryz.t351],
  [Go.Proofs.Tryz.t352, Go.Proofs.Tryz.t353]]
noncomputable def funcs : List (List Func) := [[Go.Proofs.Tryz.f0, Go.Proofs.Tryz.f1, Go.Proofs.Tryz.f2, Go.Proofs.Tryz.f3, Go.Proofs.Tryz.f4, Go.Proofs.Tryz.f5, Go.Proofs.Tryz.f6, Go.Proofs.Tryz.f7, Go.Proofs.Tryz.f8, Go.Proofs.Tryz.f9, Go.Proofs.Tryz.f10, Go.Proofs.Tryz.f11, Go.Proofs.Tryz.f12, Go.Proofs.Tryz.f13, Go.Proofs.Tryz.f14, Go.Proofs.Tryz.f15],
  [Go.Proofs.Tryz.f16, Go.Proofs.Tryz.f17, Go.Proofs.Tryz.f18, Go.Proofs.Tryz.f19, Go.Proofs.Tryz.f20, Go.Proofs.Tryz.f21, Go.Proofs.Tryz.f22, Go.Proofs.Tryz.f23, Go.Proofs.Tryz.f24, Go.Proofs.Tryz.f25, Go.Proofs.Tryz.f26, Go.Proofs.Tryz.f27, Go.Proofs.Tryz.f28, Go.Proofs.Tryz.f29, Go.Proofs.Tryz.f30, Go.Proofs.Tryz.f31],
  [Go.Proofs.Tryz.f32, Go.Proofs.Tryz.f33, Go.Proofs.Tryz.f34, Go.Proofs.Tryz.f35, Go.Proofs.Tryz.f36, Go.Proofs.Tryz.f37, Go.Proofs.Tryz.f38, Go.Proofs.Tryz.f39, Go.Proofs.Tryz.f40, Go.Proofs.Tryz.f41, Go.Proofs.Tryz.f42, Go.Proofs.Tryz.f43, Go.Proofs.Tryz.f44, Go.Proofs.Tryz.f45, Go.Proofs.Tryz.f46, Go.Proofs.Tryz.f47],
  [Go.Proofs.Tryz.f48, Go.Proofs.Tryz.f49, Go.Proofs.Tryz.f50, Go.Proofs.Tryz.f51, Go.Proofs.Tryz.f52, Go.Proofs.Tryz.f53, Go.Proofs.Tryz.f54, Go.Proofs.Tryz.f55, Go.Proofs.Tryz.f56, Go.Proofs.Tryz.f57, Go.Proofs.Tryz.f58, Go.Proofs.Tryz.f59, Go.Proofs.Tryz.f60, Go.Proofs.Tryz.f61, Go.Proofs.Tryz.f62, Go.Proofs.Tryz.f63],
  [Go.Proofs.Tryz.f64, Go.Proofs.Tryz.f65, Go.Proofs.Tryz.f66, Go.Proofs.Tryz.f67, Go.Proofs.Tryz.f68, Go.Proofs.Tryz.f69, Go.Proofs.Tryz.f70, Go.Proofs.Tryz.f71, Go.Proofs.Tryz.f72, Go.Proofs.Tryz.f73, Go.Proofs.Tryz.f74, Go.Proofs.Tryz.f75, Go.Proofs.Tryz.f76, Go.Proofs.Tryz.f77, Go.Proofs.Tryz.f78, Go.Proofs.Tryz.f79],
  [Go.Proofs.Tryz.f80, Go.Proofs.Tryz.f81, Go.Proofs.Tryz.f82, Go.Proofs.Tryz.f83, Go.Proofs.Tryz.f84, Go.Proofs.Tryz.f85, Go.Proofs.Tryz.f86, Go.Proofs.Tryz.f87, Go.Proofs.Tryz.f88, Go.Proofs.Tryz.f89, Go.Proofs.Tryz.f90, Go.Proofs.Tryz.f91, Go.Proofs.Tryz.f92, Go.Proofs.Tryz.f93, Go.Proofs.Tryz.f94, Go.Proofs.Tryz.f95],
  [Go.Proofs.Tryz.f96, Go.Proofs.Tryz.f97, Go.Proofs.Tryz.f98, Go.Proofs.Tryz.f99, Go.Proofs.Tryz.f100, Go.Proofs.Tryz.f101, Go.Proofs.Tryz.f102, Go.Proofs.Tryz.f103, Go.Proofs.Tryz.f104, Go.Proofs.Tryz.f105, Go.Proofs.Tryz.f106, Go.Proofs.Tryz.f107, Go.Proofs.Tryz.f108, Go.Proofs.Tryz.f109, Go.Proofs.Tryz.f110, Go.Proofs.Tryz.f111],
  [Go.Proofs.Tryz.f112, Go.Proofs.Tryz.f113, Go.Proofs.Tryz.f114, Go.Proofs.Tryz.f115, Go.Proofs.Tryz.f116, Go.Proofs.Tryz.f117, Go.Proofs.Tryz.f118, Go.Proofs.Tryz.f119, Go.Proofs.Tryz.f120, Go.Proofs.Tryz.f121, Go.Proofs.Tryz.f122, Go.Proofs.Tryz.f123, Go.Proofs.Tryz.f124, Go.Proofs.Tryz.f125, Go.Proofs.Tryz.f126, Go.Proofs.Tryz.f127],
  [Go.Proofs.Tryz.f128, Go.Proofs.Tryz.f129, Go.Proofs.Tryz.f130, Go.Proofs.Tryz.f131, Go.Proofs.Tryz.f132, Go.Proofs.Tryz.f133, Go.Proofs.Tryz.f134, Go.Proofs.Tryz.f135, Go.Proofs.Tryz.f136, Go.Proofs.Tryz.f137, Go.Proofs.Tryz.f138, Go.Proofs.Tryz.f139, Go.Proofs.Tryz.f140, Go.Proofs.Tryz.f141, Go.Proofs.Tryz.f142, Go.Proofs.Tryz.f143],
  [Go.Proofs.Tryz.f144, Go.Proofs.Tryz.f145, Go.Proofs.Tryz.f146, Go.Proofs.Tryz.f147, Go.Proofs.Tryz.f148, Go.Proofs.Tryz.f149, Go.Proofs.Tryz.f150, Go.Proofs.Tryz.f151, Go.Proofs.Tryz.f152, Go.Proofs.Tryz.f153, Go.Proofs.Tryz.f154, Go.Proofs.Tryz.f155, Go.Proofs.Tryz.f156, Go.Proofs.Tryz.f157, Go.Proofs.Tryz.f158, Go.Proofs.Tryz.f159],
  [Go.Proofs.Tryz.f160, Go.Proofs.Tryz.f161, Go.Proofs.Tryz.f162, Go.Proofs.Tryz.f163, Go.Proofs.Tryz.f164, Go.Proofs.Tryz.f165, Go.Proofs.Tryz.f166, Go.Proofs.Tryz.f167, Go.Proofs.Tryz.f168, Go.Proofs.Tryz.f169, Go.Proofs.Tryz.f170, Go.Proofs.Tryz.f171, Go.Proofs.Tryz.f172, Go.Proofs.Tryz.f173, Go.Proofs.Tryz.f174, Go.Proofs.Tryz.f175],
  [Go.Proofs.Tryz.f176, Go.Proofs.Tryz.f177, Go.Proofs.Tryz.f178, Go.Proofs.Tryz.f179, Go.Proofs.Tryz.f180, Go.Proofs.Tryz.f181, Go.Proofs.Tryz.f182, Go.Proofs.Tryz.f183, Go.Proofs.Tryz.f184, Go.Proofs.Tryz.f185, Go.Proofs.Tryz.f186, Go.Proofs.Tryz.f187, Go.Proofs.Tryz.f188, Go.Proofs.Tryz.f189, Go.Proofs.Tryz.f190, Go.Proofs.Tryz.f191],
  [Go.Proofs.Tryz.f192, Go.Proofs.Tryz.f193, Go.Proofs.Tryz.f194, Go.Proofs.Tryz.f195, Go.Proofs.Tryz.f196, Go.Proofs.Tryz.f197, Go.Proofs.Tryz.f198, Go.Proofs.Tryz.f199, Go.Proofs.Tryz.f200, Go.Proofs.Tryz.f201, Go.Proofs.Tryz.f202, Go.Proofs.Tryz.f203, Go.Proofs.Tryz.f204, Go.Proofs.Tryz.f205, Go.Proofs.Tryz.f206, Go.Proofs.Tryz.f207],
  [Go.Proofs.Tryz.f208, Go.Proofs.Tryz.f209, Go.Proofs.Tryz.f210, Go.Proofs.Tryz.f211, Go.Proofs.Tryz.f212, Go.Proofs.Tryz.f213, Go.Proofs.Tryz.f214, Go.Proofs.Tryz.f215, Go.Proofs.Tryz.f216, Go.Proofs.Tryz.f217, Go.Proofs.Tryz.f218, Go.Proofs.Tryz.f219, Go.Proofs.Tryz.f220, Go.Proofs.Tryz.f221, Go.Proofs.Tryz.f222, Go.Proofs.Tryz.f223],
  [Go.Proofs.Tryz.f224, Go.Proofs.Tryz.f225, Go.Proofs.Tryz.f226, Go.Proofs.Tryz.f227, Go.Proofs.Tryz.f228, Go.Proofs.Tryz.f229, Go.Proofs.Tryz.f230, Go.Proofs.Tryz.f231, Go.Proofs.Tryz.f232, Go.Proofs.Tryz.f233, Go.Proofs.Tryz.f234, Go.Proofs.Tryz.f235, Go.Proofs.Tryz.f236, Go.Proofs.Tryz.f237, Go.Proofs.Tryz.f238, Go.Proofs.Tryz.f239],
  [Go.Proofs.Tryz.f240, Go.Proofs.Tryz.f241, Go.Proofs.Tryz.f242, Go.Proofs.Tryz.f243, Go.Proofs.Tryz.f244, Go.Proofs.Tryz.f245, Go.Proofs.Tryz.f246, Go.Proofs.Tryz.f247, Go.Proofs.Tryz.f248, Go.Proofs.Tryz.f249, Go.Proofs.Tryz.f250, Go.Proofs.Tryz.f251, Go.Proofs.Tryz.f252, Go.Proofs.Tryz.f253, Go.Proofs.Tryz.f254, Go.Proofs.Tryz.f255],
  [Go.Proofs.Tryz.f256, Go.Proofs.Tryz.f257, Go.Proofs.Tryz.f258, Go.Proofs.Tryz.f259, Go.Proofs.Tryz.f260, Go.Proofs.Tryz.f261, Go.Proofs.Tryz.f262, Go.Proofs.Tryz.f263, Go.Proofs.Tryz.f264, Go.Proofs.Tryz.f265, Go.Proofs.Tryz.f266, Go.Proofs.Tryz.f267, Go.Proofs.Tryz.f268, Go.Proofs.Tryz.f269, Go.Proofs.Tryz.f270, Go.Proofs.Tryz.f271],
  [Go.Proofs.Tryz.f272, Go.Proofs.Tryz.f273, Go.Proofs.Tryz.f274, Go.Proofs.Tryz.f275, Go.Proofs.Tryz.f276, Go.Proofs.Tryz.f277, Go.Proofs.Tryz.f278, Go.Proofs.Tryz.f279, Go.Proofs.Tryz.f280, Go.Proofs.Tryz.f281, Go.Proofs.Tryz.f282, Go.Proofs.Tryz.f283, Go.Proofs.Tryz.f284, Go.Proofs.Tryz.f285, Go.Proofs.Tryz.f286, Go.Proofs.Tryz.f287],
  [Go.Proofs.Tryz.f288, Go.Proofs.Tryz.f289, Go.Proofs.Tryz.f290, Go.Proofs.Tryz.f291, Go.Proofs.Tryz.f292, Go.Proofs.Tryz.f293, Go.Proofs.Tryz.f294, Go.Proofs.Tryz.f295, Go.Proofs.Tryz.f296, Go.Proofs.Tryz.f297, Go.Proofs.Tryz.f298, Go.Proofs.Tryz.f299, Go.Proofs.Tryz.f300, Go.Proofs.Tryz.f301, Go.Proofs.Tryz.f302, Go.Proofs.Tryz.f303],
  [Go.Proofs.Tryz.f304, Go.Proofs.Tryz.f305, Go.Proofs.Tryz.f306, Go.Proofs.Tryz.f307, Go.Proofs.Tryz.f308, Go.Proofs.Tryz.f309, Go.Proofs.Tryz.f310, Go.Proofs.Tryz.f311, Go.Proofs.Tryz.f312, Go.Proofs.Tryz.f313, Go.Proofs.Tryz.f314, Go.Proofs.Tryz.f315]]
noncomputable def joins : List (List (List (Nat × List Nat))) := [[[], [], [], [], [(2, [0])], [], [], [], [(4, [26])], [], [(3, [10])], [], [], [], [], []],
  [[], [(5, [39])], [], [], [], [], [], [(23, [70])], [], [], [], [], [], [], [], []],
  [[(1, [18])], [(1, [22])], [], [(1, [14])], [(4, [4]), (6, [4]), (7, [40]), (9, [4])], [(3, [15]), (7, [47])], [(1, [14])], [], [], [], [], [], [(1, [35])], [], [], []],
  [[], [], [(2, [22]), (4, [37])], [(1, [4])], [], [], [], [], [], [], [], [], [(6, [2])], [], [], []],
  [[], [], [(3, [19])], [], [(1, [2])], [(1, [2])], [], [], [], [], [], [], [], [(1, [29])], [(2, [10])], [(3, [4]), (5, [4]), (7, [4])]],
  [[], [], [], [], [], [(2, [27])], [], [], [(2, [37])], [(2, [19])], [], [(2, [22])], [], [], [], []],
  [[(1, [10])], [(1, [13])], [(1, [18])], [], [], [], [(1, [2])], [], [], [(1, [2])], [(1, [2])], [], [], [], [], []],
  [[], [], [], [(6, [34]), (8, [49])], [], [(2, [32]), (5, [47]), (12, [85])], [], [], [], [], [], [], [], [], [], []],
  [[], [], [], [], [], [], [], [], [], [], [], [], [], [], [(1, [20])], []],
  [[], [(2, [28]), (8, [50])], [], [], [], [], [], [], [], [], [], [(1, [4])], [(1, [2])], [], [(18, [53]), (27, [91])], [(2, [31]), (11, [65]), (14, [97]), (16, [122])]],
  [[], [], [], [], [], [], [], [], [], [], [], [], [(5, [37])], [], [(3, [27]), (6, [36]), (10, [54]), (11, [54])], [(1, [10])]],
  [[(2, [19]), (5, [53])], [(1, [10]), (2, [32])], [], [(3, [19]), (5, [39])], [], [], [], [(2, [18])], [], [], [], [], [], [], [], []],
  [[], [], [], [], [(1, [19])], [(1, [16])], [(15, [68]), (17, [87])], [], [(1, [8]), (3, [17])], [], [], [], [(1, [21])], [(1, [2, 3])], [], []],
  [[(2, [18])], [], [], [], [], [(1, [5])], [], [(3, [32]), (6, [54])], [], [], [(4, [30])], [], [], [], [], [(5, [32])]],
  [[(1, [4])], [(3, [43]), (5, [59])], [(3, [43]), (5, [60]), (13, [112]), (15, [129])], [], [], [(1, [9]), (4, [26])], [], [], [], [], [], [], [], [], [], [(3, [40]), (7, [61])]],
  [[], [], [], [], [], [], [], [], [], [], [], [], [], [(1, [17]), (9, [4]), (17, [85]), (18, [4])], [(9, [4]), (17, [78]), (18, [4])], []],
  [[(3, [36])], [], [], [], [], [], [(1, [2])], [], [], [], [], [], [], [], [], []],
  [[(4, [30])], [(1, [14])], [], [], [], [], [], [], [], [(2, [33])], [(2, [32])], [], [], [], [], []],
  [[], [], [], [], [], [], [], [], [], [], [], [], [], [], [], []],
  [[], [(3, [21])], [], [], [], [], [], [], [], [], [], []]]
noncomputable def loops : List (List (List (Nat × List (Nat × Nat) × List (Nat × List Nat) × List Nat))) := [[[], [], [], [(0, [(0, 0), (1, 0), (4, 0), (5, 0), (6, 0), (7, 1), (8, 0)], [], [3019007, 5000007])], [], [], [], [(0, [(0, 0), (1, 0), (2, 0), (6, 0), (7, 3), (8, 0)], [], [3013007, 5000007])], [(0, [(6, 0), (7, 0), (8, 0), (9, 0), (10, 0)], [(6, [0, 0, 0, 0, 0, 0, 0, 0, 0, 0, 0, 0, 0]), (9, [0]), (15, [0, 0, 0, 0, 0, 0, 0, 0, 0, 0, 0, 0, 0, 0, 0, 0, 0, 0, 0, 0, 0, 0, 0, 0, 0, 0, 0, 0])], [2000015])], [], [], [], [], [], [], []],
  [[], [(0, [(0, 0), (2, 0), (3, 0), (4, 0), (22, 0), (23, 0), (24, 0)], [(3, [0, 0, 0]), (4, [0, 0, 0])], [])], [], [(0, [(1, 0), (2, 0), (3, 3), (11, 0), (12, 0), (13, 0)], [(1, [0, 0, 0]), (2, [0, 0, 0])], [3012003])], [], [], [], [(0, [(0, 0), (2, 0), (3, 0), (4, 0), (6, 0), (7, 0), (24, 0), (25, 0), (26, 0)], [(23, [0])], [2000023])], [(0, [(2, 0), (3, 0), (4, 9), (12, 0), (13, 0), (14, 0)], [], [3013004, 5000004])], [], [], [], [(0, [(0, 0), (2, 0), (3, 0), (6, 0), (22, 0), (23, 0), (24, 0)], [(21, [8])], [2000021])], [(0, [(0, 0), (1, 0), (4, 0), (7, 0), (8, 0)], [], [])], [], []],
  [[], [], [], [], [], [], [], [(0, [(0, 0), (2, 4), (3, 0), (4, 0)], [], [5000002])], [(1000002, [], [], [])], [], [], [], [], [(0, [(1, 0), (2, 0), (3, 4), (7, 0), (8, 0), (9, 0)], [(1, [0, 0, 0, 0]), (2, [0, 0, 0, 0])], [3008003, 5000003])], [(0, [(0, 0), (1, 0), (4, 0), (7, 0), (8, 0)], [], [])], [(0, [(0, 0), (2, 0), (3, 0), (16, 0), (17, 0), (18, 0)], [], []), (2, [(0, 0), (2, 0), (3, 0), (6, 0), (7, 0), (35, 0), (36, 0), (37, 0)], [(6, [0, 0]), (32, [0])], [2000032]), (4, [(0, 0), (2, 0), (3, 0), (6, 0), (7, 0), (10, 1), (11, 0)], [(6, [0, 0]), (32, [0])], [5000010])]],
  [[], [], [(0, [(1, 0), (2, 0), (6, 0), (39, 0), (40, 0), (41, 0)], [], [])], [], [], [], [], [], [], [], [], [], [], [], [(0, [(1, 0), (2, 0), (3, 3), (11, 0), (12, 0), (13, 0)], [(1, [0, 0, 0]), (2, [0, 0, 0])], [3012003])], []],
  [[(0, [(0, 0), (1, 0), (5, 0), (6, 0)], [(5, [0, 0, 0])], [100000001])], [(0, [(2, 0), (3, 0), (18, 0), (19, 0), (20, 0)], [(2, [0, 0, 0]), (3, [0, 0, 3])], [])], [], [], [], [], [], [(0, [(0, 0), (2, 0), (3, 0), (16, 0), (17, 0), (18, 0)], [(2, [0, 0]), (3, [1, 1])], []), (2, [(0, 0), (2, 0), (3, 0), (4, 0), (6, 0), (16, 0), (17, 0), (18, 0), (30, 0), (31, 0), (32, 0)], [(2, [0, 0]), (3, [1, 1])], [])], [], [(0, [(1, 0), (3, 0), (6, 0), (13, 0), (14, 0), (15, 0)], [(3, [0, 1])], [])], [], [], [], [], [], []],
  [[(0, [(1, 0), (2, 0), (6, 0), (15, 0), (16, 0), (17, 0)], [], [])], [(0, [(0, 0), (1, 0), (4, 0), (7, 0), (8, 0)], [], [])], [], [], [], [(0, [(2, 0), (29, 0), (30, 0), (31, 0)], [], [])], [], [(0, [(0, 0), (1, 0), (5, 0), (6, 0), (7, 0), (38, 0), (39, 0), (40, 0)], [(5, [0, 0, 0]), (30, [0, 0, 1, 0, 0, 0, 0])], [])], [(0, [(0, 0), (1, 0), (2, 0), (3, 0), (8, 0), (9, 3), (69, 0), (70, 0)], [(8, [0, 0, 0])], [3069009]), (2, [(0, 0), (1, 0), (2, 0), (3, 0), (8, 0), (9, 3), (10, 0), (12, 0), (13, 1), (69, 0), (70, 0), (91, 0), (92, 0)], [(8, [0, 0, 0])], [3091009, 3091013])], [], [(0, [(0, 0), (1, 0), (4, 0), (7, 0), (8, 0)], [], [])], [], [], [], [], []],
  [[(0, [(0, 0), (1, 0), (4, 0)], [], [])], [], [], [], [], [(0, [(0, 0), (1, 0), (4, 0), (5, 0)], [], [])], [], [], [], [], [], [], [(0, [(2, 0), (3, 0), (4, 0), (5, 0), (14, 0), (15, 0), (16, 0)], [], [])], [(0, [(0, 0), (2, 0), (5, 0), (6, 0), (7, 0)], [], [])], [], []],
  [[(0, [(0, 0), (1, 0)], [], [])], [], [], [], [(0, [(1, 0), (2, 0), (3, 3), (11, 0), (12, 0), (13, 0)], [(1, [0, 0, 0]), (2, [0, 0, 0])], [3012003])], [], [], [], [], [], [], [], [], [(0, [(1, 0), (6, 0), (8, 0), (9, 0), (15, 0), (16, 0), (17, 0)], [(6, [0, 0, 0])], [])], [], []],
  [[], [], [], [], [], [], [], [], [], [], [], [], [], [], [], [(0, [(0, 0), (1, 0), (4, 0)], [], [])]],
  [[], [], [], [], [], [], [], [], [], [], [], [], [], [], [(0, [(0, 0), (2, 0), (3, 0), (4, 0), (5, 0), (6, 0)], [], []), (2, [(0, 0), (2, 0), (9, 1), (10, 0), (12, 0)], [], [3044009]), (4, [(0, 0), (2, 0), (9, 1), (10, 0), (11, 0), (12, 0)], [], [3059009]), (6, [(0, 0), (2, 0), (9, 1), (10, 0), (12, 0)], [], [3082009])], [(1, [(6, 0), (55, 0), (56, 0), (57, 0)], [(3, [0]), (5, [0])], [3, 5, 1000006])]],
  [[], [], [(0, [(0, 1), (2, 0), (3, 0)], [], [3012000]), (2, [(0, 1), (2, 0), (3, 0), (4, 0), (5, 0)], [], [3031000])], [(0, [(0, 0), (1, 0), (4, 0), (7, 0), (8, 0)], [], [])], [], [], [], [], [], [], [(0, [(1, 0), (2, 0), (4, 0), (5, 0), (20, 0), (21, 0)], [(2, [0, 0, 0]), (4, [0, 0, 0, 0, 0, 0, 0])], []), (2, [(1, 0), (2, 0), (4, 0), (5, 0), (10, 0)], [(2, [0, 0, 0]), (4, [0, 0, 0, 0, 0, 0, 0])], [])], [], [], [(0, [(3, 0), (6, 0), (7, 0), (8, 0), (9, 0), (22, 0), (23, 0), (24, 0)], [(3, [0, 0, 0]), (6, [0, 0, 0, 0, 0, 0, 0]), (8, [0, 0, 0, 0, 0, 0, 0])], [])], [], [(0, [(2, 0), (3, 0), (4, 0), (13, 0), (14, 0)], [(2, [0, 0, 0]), (4, [0, 0, 0])], [])]],
  [[], [], [], [], [(0, [(1, 0), (2, 0), (3, 0), (6, 0), (7, 3), (22, 0), (23, 0), (24, 0)], [(3, [0, 0, 0]), (6, [0, 0, 0])], [3023007])], [], [], [], [], [], [], [], [], [], [], [(0, [(0, 0), (4, 0), (7, 0), (8, 0), (9, 0)], [], [100000000])]],
  [[], [(0, [(0, 0), (1, 0), (4, 0), (5, 2), (6, 0), (14, 0)], [], [5000005]), (2, [(0, 0), (4, 0), (9, 1), (47, 0), (48, 0), (49, 0)], [], [3048009])], [], [(0, [(3, 0), (4, 0), (6, 1), (11, 0), (12, 0), (13, 0)], [(4, [0, 0, 0, 0])], [3012006, 5000006])], [], [], [(0, [(0, 0), (1, 0), (2, 0), (3, 0), (8, 0), (9, 0)], [], [])], [], [(1, [(1, 0), (4, 0), (39, 0), (40, 0), (41, 0)], [], [])], [], [(0, [(1, 0), (3, 0), (6, 0), (7, 0), (8, 0), (9, 0), (19, 0), (20, 0), (21, 0)], [(3, [0, 0, 0]), (6, [0, 0, 0, 0, 0, 0, 0]), (8, [0, 0, 0]), (9, [3])], [])], [], [], [], [], []],
  [[], [], [], [], [(0, [(1, 0), (2, 0), (3, 0), (6, 0), (18, 0), (19, 0), (20, 0)], [(3, [0, 0, 0])], [])], [], [], [], [], [], [(0, [(0, 1), (1, 0), (2, 0), (6, 0)], [], [3011000]), (2, [(0, 1), (1, 0), (2, 0), (6, 0), (7, 0)], [], [])], [(0, [(0, 1), (6, 0), (7, 0), (8, 0), (9, 0)], [], []), (2, [(0, 1), (6, 0), (7, 0), (10, 0)], [], [])], [(0, [(0, 1), (1, 0), (6, 0), (7, 0), (8, 0), (9, 0)], [(7, [0])], [2000007])], [], [(0, [(0, 1), (6, 0), (7, 0)], [], [3012000])], [(0, [(0, 1), (1, 0), (2, 0), (6, 0), (7, 0), (8, 0)], [], []), (2, [(0, 1), (1, 0), (2, 0), (6, 0), (7, 0), (8, 0)], [], [3018000]), (4, [(0, 1), (1, 0), (2, 0), (6, 0), (7, 0), (8, 0), (9, 0)], [], []), (6, [(0, 1), (1, 0), (2, 0), (6, 0), (7, 0), (8, 0), (10, 0)], [], [3102000])]],
  [[], [(0, [(0, 1), (1, 0), (8, 0), (9, 0), (10, 0)], [], []), (2, [(0, 1), (1, 0), (8, 0), (9, 0), (10, 0)], [], []), (4, [(0, 1), (1, 0), (8, 0), (9, 0), (10, 0)], [], [])], [(0, [(0, 1), (1, 0), (8, 0), (9, 0), (10, 0), (11, 0)], [], []), (2, [(0, 1), (1, 0), (8, 0), (9, 0), (10, 0), (11, 0)], [], []), (4, [(0, 1), (1, 0), (8, 0), (9, 0), (10, 0), (11, 0)], [], []), (6, [(0, 1), (1, 0), (8, 0), (9, 0), (10, 0), (11, 0)], [], []), (8, [(0, 1), (1, 0), (8, 0), (9, 0), (10, 0), (11, 0)], [], [])], [], [], [], [], [], [], [], [], [], [], [], [], []],
  [[], [], [], [], [], [], [], [], [], [], [], [], [], [(0, [(0, 0), (1, 0), (4, 0), (19, 0), (20, 0)], [], []), (2, [(0, 0), (1, 0), (4, 0), (7, 0), (8, 0)], [], [])], [(0, [(0, 0), (1, 0), (4, 0), (15, 0), (16, 0)], [], []), (2, [(0, 0), (1, 0), (4, 0), (7, 0), (8, 0)], [], [])], [(0, [(0, 0), (1, 0), (4, 0), (7, 0), (8, 0)], [], [])]],
  [[(0, [(0, 1), (2, 0), (3, 0), (8, 0)], [], [])], [], [], [], [], [], [], [], [], [], [], [], [], [], [], []],
  [[], [], [], [], [], [], [(0, [(0, 0), (1, 0), (4, 0), (7, 0), (8, 0)], [], [])], [(0, [(1, 0), (2, 0), (3, 3), (11, 0), (12, 0), (13, 0)], [(1, [0, 0, 0]), (2, [0, 0, 0])], [3012003])], [(0, [(1, 0), (2, 0), (3, 0), (16, 0), (17, 0), (18, 0)], [(1, [0, 0, 0]), (2, [0, 0, 0]), (3, [0, 0, 3])], [])], [], [], [], [], [], [], []],
  [[], [], [], [], [], [], [], [], [], [], [], [], [], [], [], []],
  [[], [(0, [(0, 0), (1, 0), (2, 0), (6, 0), (7, 0)], [], [])], [], [], [], [], [], [], [], [], [], []]]
noncomputable def opns : List (Nat × List Bool) := [(11, [true]), (12, [true]), (13, [true]), (14, [true]), (15, [true]), (16, [true]), (17, [true]), (18, [true]), (32, [true, false, false]), (48, [true, false]), (49, [true, false]), (64, [true, false, false]), (71, [false]), (72, [true, false]), (73, [false, true, false]), (76, [true]), (86, []), (87, [true, false, false]), (88, [true, false, false, false]), (97, [true, false]), (98, [true]), (99, [true, false, false]), (100, [true, false, false]), (110, [false]), (112, [true, false]), (137, [true, false]), (138, [true, false]), (139, [true, false]), (140, [true, false]), (141, [true, false]), (142, [true]), (145, [true, false]), (146, [true, false, false, false]), (150, [false]), (152, [true, false, false]), (154, [true, false, false, false]), (159, [true, false, false]), (160, [true]), (161, [false]), (162, [true]), (195, [false, false, false, false]), (198, [true, false, false, false]), (203, [false]), (211, [false]), (218, [true, false, false]), (219, [true, false, false]), (220, [true, false, false]), (221, [true, false, false]), (222, [true, false, false]), (223, [true, false, false]), (225, [true, false, false, false]), (226, [true, false, false, false]), (250, [false]), (256, [true, false, false, false]), (301, [true, false]), (302, [false, false, false]), (303, [true]), (304, [true]), (305, [true, false, false]), (307, [true]), (40, [true, false]), (41, [true]), (42, [true]), (50, [false, true, false]), (258, [true]), (259, [false, false, true]), (260, [false, false, false, false, true]), (277, [false, false, false, true])]
noncomputable def ress : List (Nat × List (List Bool)) := [(71, [[false, true]]), (86, [[true]]), (203, [[true]]), (110, [[true]]), (150, [[true]]), (161, [[true]]), (211, [[true]]), (250, [[true]]), (162, [[true]])]
noncomputable def nily : List Nat := [273, 110, 159, 195, 150, 161, 211, 250]
noncomputable def twos : List Nat := [74, 43, 150, 161, 211, 250]
noncomputable def cfgT (t : MT) : Cfg := mkCfg (prmsOf t) types funcs opns ress nily twos joins loops
noncomputable def t0 : MT := []
noncomputable def cfg0 : Cfg := cfgT t0
end Go.Proofs.YthndchidnkbgiaaGreatDoor
/- The tables are the program's. -/
namespace Go.Proofs.YthndchidnkbgiaaGreatDoor
open Go Go.Ev
theorem types_all : (List.range 368).map (tab types) = (List.range 368).map (fun t => Tryz.prog.info? t) := by kernel_rfl
theorem funcs_all : (List.range 320).map (tab funcs) = (List.range 320).map (fun t => Tryz.prog.funcs[t]?) := by kernel_rfl
theorem funcs_ok : funcs.flatten.all goOk = true := by kernel_rfl
theorem mixed : Tryz.prog.follows .mixedOrders = true := by kernel_rfl
theorem okT (t : MT) : Ok Tryz.prog (cfgT t) ∧ CodesOk (cfgT t) := ok_of rfl rfl rfl rfl types_all funcs_all funcs_ok mixed
/-- what is known of a call -/
abbrev Known (f : Nat) (xs : List CV) (r : CV) : Prop := Fact Tryz.prog cfg0 f xs r
theorem prmT {t : MT} (h : AllT Known t) : PrmOk Tryz.prog (cfgT t) := memo_ok (fun _ => rfl) rfl rfl h
theorem knownT {t : MT} (h : AllT Known t) {n f : Nat} {xs : List CV} {r : CV} (hr : (orcF (cfgT t) n).clo f xs = some r) : Known f xs r := memo_fact (okT t).1 (okT t).2 (prmT h) rfl rfl hr
theorem consE {Q : List CV → CV → Prop} {e : List CV × CV} {l : List (List CV × CV)} (h : Q e.1 e.2) (k : AllE Q l) : AllE Q (e :: l) := ⟨h, k⟩
theorem consT {Q : Nat → List CV → CV → Prop} {p : Nat × List (List CV × CV)} {l : MT} (h : AllE (Q p.1) p.2) (k : AllT Q l) : AllT Q (p :: l) := ⟨h, k⟩
theorem all0 : AllT Known t0 := trivial
end Go.Proofs.YthndchidnkbgiaaGreatDoor
/- Arguments and answers of calls. -/
namespace Go.Proofs.YthndchidnkbgiaaGreatDoor
open Go Go.Ev
noncomputable def v4 : CV := .str ⟨#[78, 97, 116]⟩
noncomputable def v6 : CV := .str ⟨#[84, 121]⟩
noncomputable def v7 : CV := .str ⟨#[73, 110, 116]⟩
noncomputable def v8 : CV := .str ⟨#[102, 110]⟩
noncomputable def v9 : CV := .str ⟨#[112, 105]⟩
noncomputable def v10 : CV := .str ⟨#[115, 105, 103]⟩
noncomputable def v11 : CV := .str ⟨#[45, 62]⟩
noncomputable def v17 : CV := .str ⟨#[114, 101, 99]⟩
noncomputable def v18 : CV := .str ⟨#[108, 105, 102, 116]⟩
noncomputable def v21 : CV := .str ⟨#[97, 100, 100]⟩
noncomputable def v22 : CV := .str ⟨#[115, 117, 98]⟩
noncomputable def v23 : CV := .str ⟨#[109, 117, 108]⟩
noncomputable def v24 : CV := .str ⟨#[100, 105, 118]⟩
noncomputable def v25 : CV := .str ⟨#[108, 101, 115, 115]⟩
noncomputable def v27 : CV := .str ⟨#[108, 101, 116]⟩
noncomputable def v28 : CV := .str ⟨#[102, 105, 120]⟩
noncomputable def v30 : CV := .str ⟨#[100, 101, 102]⟩
noncomputable def v31 : CV := .im [.str ⟨#[85, 48]⟩, .str ⟨#[85, 49]⟩, .str ⟨#[85, 50]⟩, v4, .str ⟨#[122, 101, 114, 111]⟩, v6, v7, v8, v9, v10, v11, .str ⟨#[42]⟩, .str ⟨#[112, 97, 105, 114]⟩, .str ⟨#[102, 115, 116]⟩, .str ⟨#[115, 110, 100]⟩, .str ⟨#[115, 117, 99]⟩, v17, v18, .str ⟨#[113, 117, 111, 116, 101]⟩, .str ⟨#[115, 112, 108, 105, 99, 101]⟩, v21, v22, v23, v24, v25, .str ⟨#[105, 102]⟩, v27, v28, .str ⟨#[116, 104, 101]⟩, v30]
noncomputable def v32 : CV := .im [v8, v9, v10, v27, v28]
noncomputable def v36 : CV := .str ⟨#[40, 100, 101, 102, 32, 102, 117, 110, 32, 40, 45, 62, 32, 78, 97, 116, 32, 84, 121, 41, 32, 40, 102, 110, 32, 110, 32, 40, 114, 101, 99, 32, 40, 107, 32, 84, 121, 41, 32, 73, 110, 116, 32, 40, 105, 32, 104, 32, 40, 45, 62, 32, 73, 110, 116, 32, 104, 41, 41, 32, 110, 41, 41, 41, 10, 40, 100, 101, 102, 32, 115, 117, 109, 32, 40, 112, 105, 32, 40, 110, 32, 78, 97, 116, 41, 32, 40, 45, 62, 32, 40, 108, 105, 102, 116, 32, 73, 110, 116, 41, 32, 40, 108, 105, 102, 116, 32, 40, 102, 117, 110, 32, 110, 41, 41, 41, 41, 32, 40, 102, 110, 32, 110, 32, 40, 114, 101, 99, 32, 40, 107, 32, 40, 45, 62, 32, 40, 108, 105, 102, 116, 32, 73, 110, 116, 41, 32, 40, 108, 105, 102, 116, 32, 40, 102, 117, 110, 32, 107, 41, 41, 41, 41, 32, 40, 102, 110, 32, 97, 32, 97, 41, 32, 40, 105, 32, 104, 32, 40, 102, 110, 32, 97, 32, 40, 102, 110, 32, 120, 32, 40, 104, 32, 40, 97, 100, 100, 32, 97, 32, 120, 41, 41, 41, 41, 41, 32, 110, 41, 41, 41, 10, 40, 100, 101, 102, 32, 109, 97, 105, 110, 32, 40, 115, 117, 109, 32, 48, 32, 48, 41, 41]⟩
noncomputable def v39 : CV := .ag [.int .i64 1, .int .i64 0, .int .i64 0, .str ⟨#[]⟩]
noncomputable def v41 : CV := .ag [.int .i64 3, .int .i64 0, .int .i64 1, v30]
noncomputable def v43 : CV := .str ⟨#[102, 117, 110]⟩
noncomputable def v44 : CV := .ag [.int .i64 3, .int .i64 0, .int .i64 5, v43]
noncomputable def v46 : CV := .ag [.int .i64 1, .int .i64 0, .int .i64 9, .str ⟨#[]⟩]
noncomputable def v48 : CV := .ag [.int .i64 3, .int .i64 0, .int .i64 10, v11]
noncomputable def v50 : CV := .ag [.int .i64 3, .int .i64 0, .int .i64 13, v4]
noncomputable def v52 : CV := .ag [.int .i64 3, .int .i64 0, .int .i64 17, v6]
noncomputable def v55 : CV := .ag [.int .i64 2, .int .i64 0, .int .i64 19, .str ⟨#[]⟩]
noncomputable def v57 : CV := .ag [.int .i64 1, .int .i64 0, .int .i64 21, .str ⟨#[]⟩]
noncomputable def v59 : CV := .ag [.int .i64 3, .int .i64 0, .int .i64 22, v8]
noncomputable def v61 : CV := .str ⟨#[110]⟩
noncomputable def v62 : CV := .ag [.int .i64 3, .int .i64 0, .int .i64 25, v61]
noncomputable def v64 : CV := .ag [.int .i64 1, .int .i64 0, .int .i64 27, .str ⟨#[]⟩]
noncomputable def v66 : CV := .ag [.int .i64 3, .int .i64 0, .int .i64 28, v17]
noncomputable def v68 : CV := .ag [.int .i64 1, .int .i64 0, .int .i64 32, .str ⟨#[]⟩]
noncomputable def v70 : CV := .str ⟨#[107]⟩
noncomputable def v71 : CV := .ag [.int .i64 3, .int .i64 0, .int .i64 33, v70]
noncomputable def v73 : CV := .ag [.int .i64 3, .int .i64 0, .int .i64 35, v6]
noncomputable def v75 : CV := .ag [.int .i64 2, .int .i64 0, .int .i64 37, .str ⟨#[]⟩]
noncomputable def v77 : CV := .ag [.int .i64 3, .int .i64 0, .int .i64 39, v7]
noncomputable def v79 : CV := .ag [.int .i64 1, .int .i64 0, .int .i64 43, .str ⟨#[]⟩]
noncomputable def v81 : CV := .str ⟨#[105]⟩
noncomputable def v82 : CV := .ag [.int .i64 3, .int .i64 0, .int .i64 44, v81]
noncomputable def v84 : CV := .str ⟨#[104]⟩
noncomputable def v85 : CV := .ag [.int .i64 3, .int .i64 0, .int .i64 46, v84]
noncomputable def v87 : CV := .ag [.int .i64 1, .int .i64 0, .int .i64 48, .str ⟨#[]⟩]
noncomputable def v89 : CV := .ag [.int .i64 3, .int .i64 0, .int .i64 49, v11]
noncomputable def v91 : CV := .ag [.int .i64 3, .int .i64 0, .int .i64 52, v7]
noncomputable def v93 : CV := .ag [.int .i64 3, .int .i64 0, .int .i64 56, v84]
noncomputable def v95 : CV := .ag [.int .i64 2, .int .i64 0, .int .i64 57, .str ⟨#[]⟩]
noncomputable def v97 : CV := .ag [.int .i64 2, .int .i64 0, .int .i64 58, .str ⟨#[]⟩]
noncomputable def v99 : CV := .ag [.int .i64 3, .int .i64 0, .int .i64 60, v61]
noncomputable def v101 : CV := .ag [.int .i64 2, .int .i64 0, .int .i64 61, .str ⟨#[]⟩]
noncomputable def v103 : CV := .ag [.int .i64 2, .int .i64 0, .int .i64 62, .str ⟨#[]⟩]
noncomputable def v105 : CV := .ag [.int .i64 2, .int .i64 0, .int .i64 63, .str ⟨#[]⟩]
noncomputable def v107 : CV := .ag [.int .i64 1, .int .i64 0, .int .i64 65, .str ⟨#[]⟩]
noncomputable def v109 : CV := .ag [.int .i64 3, .int .i64 0, .int .i64 66, v30]
noncomputable def v111 : CV := .str ⟨#[115, 117, 109]⟩
noncomputable def v112 : CV := .ag [.int .i64 3, .int .i64 0, .int .i64 70, v111]
noncomputable def v114 : CV := .ag [.int .i64 1, .int .i64 0, .int .i64 74, .str ⟨#[]⟩]
noncomputable def v116 : CV := .ag [.int .i64 3, .int .i64 0, .int .i64 75, v9]
noncomputable def v118 : CV := .ag [.int .i64 1, .int .i64 0, .int .i64 78, .str ⟨#[]⟩]
noncomputable def v120 : CV := .ag [.int .i64 3, .int .i64 0, .int .i64 79, v61]
noncomputable def v122 : CV := .ag [.int .i64 3, .int .i64 0, .int .i64 81, v4]
noncomputable def v124 : CV := .ag [.int .i64 2, .int .i64 0, .int .i64 84, .str ⟨#[]⟩]
noncomputable def v126 : CV := .ag [.int .i64 1, .int .i64 0, .int .i64 86, .str ⟨#[]⟩]
noncomputable def v128 : CV := .ag [.int .i64 3, .int .i64 0, .int .i64 87, v11]
noncomputable def v130 : CV := .ag [.int .i64 1, .int .i64 0, .int .i64 90, .str ⟨#[]⟩]
noncomputable def v132 : CV := .ag [.int .i64 3, .int .i64 0, .int .i64 91, v18]
noncomputable def v134 : CV := .ag [.int .i64 3, .int .i64 0, .int .i64 96, v7]
noncomputable def v136 : CV := .ag [.int .i64 2, .int .i64 0, .int .i64 99, .str ⟨#[]⟩]
noncomputable def v138 : CV := .ag [.int .i64 1, .int .i64 0, .int .i64 101, .str ⟨#[]⟩]
noncomputable def v140 : CV := .ag [.int .i64 3, .int .i64 0, .int .i64 102, v18]
noncomputable def v142 : CV := .ag [.int .i64 1, .int .i64 0, .int .i64 107, .str ⟨#[]⟩]
noncomputable def v144 : CV := .ag [.int .i64 3, .int .i64 0, .int .i64 108, v43]
noncomputable def v146 : CV := .ag [.int .i64 3, .int .i64 0, .int .i64 112, v61]
noncomputable def v148 : CV := .ag [.int .i64 2, .int .i64 0, .int .i64 113, .str ⟨#[]⟩]
noncomputable def v150 : CV := .ag [.int .i64 2, .int .i64 0, .int .i64 114, .str ⟨#[]⟩]
noncomputable def v152 : CV := .ag [.int .i64 2, .int .i64 0, .int .i64 115, .str ⟨#[]⟩]
noncomputable def v154 : CV := .ag [.int .i64 2, .int .i64 0, .int .i64 116, .str ⟨#[]⟩]
noncomputable def v156 : CV := .ag [.int .i64 1, .int .i64 0, .int .i64 118, .str ⟨#[]⟩]
noncomputable def v158 : CV := .ag [.int .i64 3, .int .i64 0, .int .i64 119, v8]
noncomputable def v160 : CV := .ag [.int .i64 3, .int .i64 0, .int .i64 122, v61]
noncomputable def v162 : CV := .ag [.int .i64 1, .int .i64 0, .int .i64 124, .str ⟨#[]⟩]
noncomputable def v164 : CV := .ag [.int .i64 3, .int .i64 0, .int .i64 125, v17]
noncomputable def v166 : CV := .ag [.int .i64 1, .int .i64 0, .int .i64 129, .str ⟨#[]⟩]
noncomputable def v168 : CV := .ag [.int .i64 3, .int .i64 0, .int .i64 130, v70]
noncomputable def v170 : CV := .ag [.int .i64 1, .int .i64 0, .int .i64 132, .str ⟨#[]⟩]
noncomputable def v172 : CV := .ag [.int .i64 3, .int .i64 0, .int .i64 133, v11]
noncomputable def v174 : CV := .ag [.int .i64 1, .int .i64 0, .int .i64 136, .str ⟨#[]⟩]
noncomputable def v176 : CV := .ag [.int .i64 3, .int .i64 0, .int .i64 137, v18]
noncomputable def v178 : CV := .ag [.int .i64 3, .int .i64 0, .int .i64 142, v7]
noncomputable def v180 : CV := .ag [.int .i64 2, .int .i64 0, .int .i64 145, .str ⟨#[]⟩]
noncomputable def v182 : CV := .ag [.int .i64 1, .int .i64 0, .int .i64 147, .str ⟨#[]⟩]
noncomputable def v184 : CV := .ag [.int .i64 3, .int .i64 0, .int .i64 148, v18]
noncomputable def v186 : CV := .ag [.int .i64 1, .int .i64 0, .int .i64 153, .str ⟨#[]⟩]
noncomputable def v188 : CV := .ag [.int .i64 3, .int .i64 0, .int .i64 154, v43]
noncomputable def v190 : CV := .ag [.int .i64 3, .int .i64 0, .int .i64 158, v70]
noncomputable def v192 : CV := .ag [.int .i64 2, .int .i64 0, .int .i64 159, .str ⟨#[]⟩]
noncomputable def v194 : CV := .ag [.int .i64 2, .int .i64 0, .int .i64 160, .str ⟨#[]⟩]
noncomputable def v196 : CV := .ag [.int .i64 2, .int .i64 0, .int .i64 161, .str ⟨#[]⟩]
noncomputable def v198 : CV := .ag [.int .i64 2, .int .i64 0, .int .i64 162, .str ⟨#[]⟩]
noncomputable def v200 : CV := .ag [.int .i64 1, .int .i64 0, .int .i64 164, .str ⟨#[]⟩]
noncomputable def v202 : CV := .ag [.int .i64 3, .int .i64 0, .int .i64 165, v8]
noncomputable def v204 : CV := .str ⟨#[97]⟩
noncomputable def v205 : CV := .ag [.int .i64 3, .int .i64 0, .int .i64 168, v204]
noncomputable def v207 : CV := .ag [.int .i64 3, .int .i64 0, .int .i64 170, v204]
noncomputable def v209 : CV := .ag [.int .i64 2, .int .i64 0, .int .i64 171, .str ⟨#[]⟩]
noncomputable def v211 : CV := .ag [.int .i64 1, .int .i64 0, .int .i64 173, .str ⟨#[]⟩]
noncomputable def v213 : CV := .ag [.int .i64 3, .int .i64 0, .int .i64 174, v81]
noncomputable def v215 : CV := .ag [.int .i64 3, .int .i64 0, .int .i64 176, v84]
noncomputable def v217 : CV := .ag [.int .i64 1, .int .i64 0, .int .i64 178, .str ⟨#[]⟩]
noncomputable def v219 : CV := .ag [.int .i64 3, .int .i64 0, .int .i64 179, v8]
noncomputable def v221 : CV := .ag [.int .i64 3, .int .i64 0, .int .i64 182, v204]
noncomputable def v223 : CV := .ag [.int .i64 1, .int .i64 0, .int .i64 184, .str ⟨#[]⟩]
noncomputable def v225 : CV := .ag [.int .i64 3, .int .i64 0, .int .i64 185, v8]
noncomputable def v227 : CV := .str ⟨#[120]⟩
noncomputable def v228 : CV := .ag [.int .i64 3, .int .i64 0, .int .i64 188, v227]
noncomputable def v230 : CV := .ag [.int .i64 1, .int .i64 0, .int .i64 190, .str ⟨#[]⟩]
noncomputable def v232 : CV := .ag [.int .i64 3, .int .i64 0, .int .i64 191, v84]
noncomputable def v234 : CV := .ag [.int .i64 1, .int .i64 0, .int .i64 193, .str ⟨#[]⟩]
noncomputable def v236 : CV := .ag [.int .i64 3, .int .i64 0, .int .i64 194, v21]
noncomputable def v238 : CV := .ag [.int .i64 3, .int .i64 0, .int .i64 198, v204]
noncomputable def v240 : CV := .ag [.int .i64 3, .int .i64 0, .int .i64 200, v227]
noncomputable def v242 : CV := .ag [.int .i64 2, .int .i64 0, .int .i64 201, .str ⟨#[]⟩]
noncomputable def v244 : CV := .ag [.int .i64 2, .int .i64 0, .int .i64 202, .str ⟨#[]⟩]
noncomputable def v246 : CV := .ag [.int .i64 2, .int .i64 0, .int .i64 203, .str ⟨#[]⟩]
noncomputable def v248 : CV := .ag [.int .i64 2, .int .i64 0, .int .i64 204, .str ⟨#[]⟩]
noncomputable def v250 : CV := .ag [.int .i64 2, .int .i64 0, .int .i64 205, .str ⟨#[]⟩]
noncomputable def v252 : CV := .ag [.int .i64 3, .int .i64 0, .int .i64 207, v61]
noncomputable def v254 : CV := .ag [.int .i64 2, .int .i64 0, .int .i64 208, .str ⟨#[]⟩]
noncomputable def v256 : CV := .ag [.int .i64 2, .int .i64 0, .int .i64 209, .str ⟨#[]⟩]
noncomputable def v258 : CV := .ag [.int .i64 2, .int .i64 0, .int .i64 210, .str ⟨#[]⟩]
noncomputable def v260 : CV := .ag [.int .i64 1, .int .i64 0, .int .i64 212, .str ⟨#[]⟩]
noncomputable def v262 : CV := .ag [.int .i64 3, .int .i64 0, .int .i64 213, v30]
noncomputable def v264 : CV := .str ⟨#[109, 97, 105, 110]⟩
noncomputable def v265 : CV := .ag [.int .i64 3, .int .i64 0, .int .i64 217, v264]
noncomputable def v267 : CV := .ag [.int .i64 1, .int .i64 0, .int .i64 222, .str ⟨#[]⟩]
noncomputable def v269 : CV := .ag [.int .i64 3, .int .i64 0, .int .i64 223, v111]
noncomputable def v274 : CV := .ag [.int .i64 4, .int .i64 0, .int .i64 229, .str ⟨#[]⟩]
noncomputable def v276 : CV := .ag [.int .i64 2, .int .i64 0, .int .i64 230, .str ⟨#[]⟩]
noncomputable def v278 : CV := .ag [.int .i64 2, .int .i64 0, .int .i64 231, .str ⟨#[]⟩]
noncomputable def v282 : CV := .ag [.int .i64 1, .int .i64 0, v30, .im []]
noncomputable def v283 : CV := .ag [.int .i64 1, .int .i64 0, v43, .im []]
noncomputable def v284 : CV := .ag [.int .i64 1, .int .i64 0, v11, .im []]
noncomputable def v285 : CV := .ag [.int .i64 1, .int .i64 0, v4, .im []]
noncomputable def v286 : CV := .ag [.int .i64 1, .int .i64 0, v6, .im []]
noncomputable def v287 : CV := .im [v284, v285, v286]
noncomputable def v288 : CV := .ag [.int .i64 3, .int .i64 0, .str ⟨#[]⟩, v287]
noncomputable def v289 : CV := .ag [.int .i64 1, .int .i64 0, v8, .im []]
noncomputable def v290 : CV := .ag [.int .i64 1, .int .i64 0, v61, .im []]
noncomputable def v291 : CV := .ag [.int .i64 1, .int .i64 0, v17, .im []]
noncomputable def v292 : CV := .ag [.int .i64 1, .int .i64 0, v70, .im []]
noncomputable def v295 : CV := .ag [.int .i64 1, .int .i64 0, v7, .im []]
noncomputable def v296 : CV := .ag [.int .i64 1, .int .i64 0, v81, .im []]
noncomputable def v297 : CV := .ag [.int .i64 1, .int .i64 0, v84, .im []]
noncomputable def v304 : CV := .im [v289, v290, .ag [.int .i64 3, .int .i64 0, .str ⟨#[]⟩, .im [v291, .ag [.int .i64 3, .int .i64 0, .str ⟨#[]⟩, .im [v292, v286]], v295, .ag [.int .i64 3, .int .i64 0, .str ⟨#[]⟩, .im [v296, v297, .ag [.int .i64 3, .int .i64 0, .str ⟨#[]⟩, .im [v284, v295, v297]]]], v290]]]
noncomputable def v305 : CV := .ag [.int .i64 3, .int .i64 0, .str ⟨#[]⟩, v304]
noncomputable def v307 : CV := .ag [.int .i64 3, .int .i64 0, .str ⟨#[]⟩, .im [v282, v283, v288, v305]]
noncomputable def v308 : CV := .ag [.int .i64 1, .int .i64 0, v111, .im []]
noncomputable def v312 : CV := .ag [.int .i64 1, .int .i64 0, v18, .im []]
noncomputable def v314 : CV := .ag [.int .i64 3, .int .i64 0, .str ⟨#[]⟩, .im [v312, v295]]
noncomputable def v321 : CV := .im [.ag [.int .i64 1, .int .i64 0, v9, .im []], .ag [.int .i64 3, .int .i64 0, .str ⟨#[]⟩, .im [v290, v285]], .ag [.int .i64 3, .int .i64 0, .str ⟨#[]⟩, .im [v284, v314, .ag [.int .i64 3, .int .i64 0, .str ⟨#[]⟩, .im [v312, .ag [.int .i64 3, .int .i64 0, .str ⟨#[]⟩, .im [v283, v290]]]]]]]
noncomputable def v322 : CV := .ag [.int .i64 3, .int .i64 0, .str ⟨#[]⟩, v321]
noncomputable def v330 : CV := .ag [.int .i64 3, .int .i64 0, .str ⟨#[]⟩, .im [v292, .ag [.int .i64 3, .int .i64 0, .str ⟨#[]⟩, .im [v284, v314, .ag [.int .i64 3, .int .i64 0, .str ⟨#[]⟩, .im [v312, .ag [.int .i64 3, .int .i64 0, .str ⟨#[]⟩, .im [v283, v292]]]]]]]]
noncomputable def v331 : CV := .ag [.int .i64 1, .int .i64 0, v204, .im []]
noncomputable def v333 : CV := .ag [.int .i64 3, .int .i64 0, .str ⟨#[]⟩, .im [v289, v331, v331]]
noncomputable def v334 : CV := .ag [.int .i64 1, .int .i64 0, v227, .im []]
noncomputable def v339 : CV := .ag [.int .i64 3, .int .i64 0, .str ⟨#[]⟩, .im [v297, .ag [.int .i64 3, .int .i64 0, .str ⟨#[]⟩, .im [.ag [.int .i64 1, .int .i64 0, v21, .im []], v331, v334]]]]
noncomputable def v341 : CV := .ag [.int .i64 3, .int .i64 0, .str ⟨#[]⟩, .im [v289, v334, v339]]
noncomputable def v345 : CV := .ag [.int .i64 3, .int .i64 0, .str ⟨#[]⟩, .im [v296, v297, .ag [.int .i64 3, .int .i64 0, .str ⟨#[]⟩, .im [v289, v331, v341]]]]
noncomputable def v348 : CV := .im [v289, v290, .ag [.int .i64 3, .int .i64 0, .str ⟨#[]⟩, .im [v291, v330, v333, v345, v290]]]
noncomputable def v349 : CV := .ag [.int .i64 3, .int .i64 0, .str ⟨#[]⟩, v348]
noncomputable def v351 : CV := .ag [.int .i64 3, .int .i64 0, .str ⟨#[]⟩, .im [v282, v308, v322, v349]]
noncomputable def v352 : CV := .ag [.int .i64 1, .int .i64 0, v264, .im []]
noncomputable def v353 : CV := .ag [.int .i64 2, .int .i64 0, .str ⟨#[]⟩, .im []]
noncomputable def v354 : CV := .im [v308, v353, v353]
noncomputable def v360 : CV := .ag [v43, .int .i64 3, .int .i64 0, .str ⟨#[]⟩, v287, .int .i64 3, .int .i64 0, .str ⟨#[]⟩, v304]
noncomputable def v361 : CV := .ag [v111, .int .i64 3, .int .i64 0, .str ⟨#[]⟩, v321, .int .i64 3, .int .i64 0, .str ⟨#[]⟩, v348]
noncomputable def v365 : CV := .tp [.im [.int .i64 0, .int .i64 1, .int .i64 2], .int .i64 0]
noncomputable def v368 : CV := .ag [.im [], .im [], .im []]
noncomputable def v369 : CV := .ag [.int .i64 10, .int .i64 0, .im []]
noncomputable def v371 : CV := .ag [.int .i64 14, .int .i64 0, .im []]
noncomputable def v372 : CV := .im [v369, v371]
noncomputable def v373 : CV := .ag [.int .i64 3, .int .i64 0, v372]
noncomputable def v374 : CV := .ag [.int .i64 2, .int .i64 0, .im []]
noncomputable def v377 : CV := .tp [.bool true, .int .i64 0]
noncomputable def v379 : CV := .ag [.int .i64 15, .int .i64 0, .im []]
noncomputable def v381 : CV := .ag [.int .i64 1, .int .i64 0, .im []]
noncomputable def v383 : CV := .ag [.int .i64 16, .int .i64 0, .im [v379, v381]]
noncomputable def v386 : CV := .im [v369, .ag [.int .i64 13, .int .i64 0, .im [v371, v379, v383, v381]]]
noncomputable def v387 : CV := .ag [.int .i64 4, .int .i64 0, v386]
noncomputable def v389 : CV := .ag [v43, .int .i64 1, .int .i64 4, .int .i64 0, v386, .int .i64 3, .int .i64 0, v372]
noncomputable def v391 : CV := .ep false (.fn (.func 164) [] []) 0
noncomputable def v393 : CV := .ag [.int .i64 1, .int .i64 10, .int .i64 0, .im []]
noncomputable def v394 : CV := .im [v393]
noncomputable def v395 : CV := .im [v389]
noncomputable def v396 : CV := .ag [.im [v61], v394, v395]
noncomputable def v403 : CV := .ag [.int .i64 1, .int .i64 1, .im []]
noncomputable def v407 : CV := .ag [.int .i64 18, .int .i64 0, .im [.ag [.int .i64 5, .int .i64 0, .im [v387, v403]]]]
noncomputable def v409 : CV := .ag [.int .i64 18, .int .i64 0, .im [v379]]
noncomputable def v410 : CV := .im [v409, v407]
noncomputable def v411 : CV := .ag [.int .i64 3, .int .i64 0, v410]
noncomputable def v412 : CV := .ag [.im [], .im [], v395]
noncomputable def v414 : CV := .ag [.int .i64 3, .int .i64 0, .im [v369, v411]]
noncomputable def v420 : CV := .im [v409, .ag [.int .i64 18, .int .i64 0, .im [.ag [.int .i64 13, .int .i64 0, .im [v371, v379, v383, v403]]]]]
noncomputable def v421 : CV := .ag [.int .i64 3, .int .i64 0, v420]
noncomputable def v422 : CV := .im [v369, v421]
noncomputable def v423 : CV := .ag [.int .i64 3, .int .i64 0, v422]
noncomputable def v424 : CV := .tp [v423, .int .i64 0]
noncomputable def v426 : CV := .ag [.int .i64 11, .int .i64 0, .im []]
noncomputable def v432 : CV := .ag [.int .i64 3, .int .i64 0, .im [v409, .ag [.int .i64 18, .int .i64 0, .im [.ag [.int .i64 5, .int .i64 0, .im [v387, v426]]]]]]
noncomputable def v434 : CV := .ag [.int .i64 3, .int .i64 0, .im [v409, v409]]
noncomputable def v435 : CV := .tp [v434, .int .i64 0]
noncomputable def v438 : CV := .im [v403]
noncomputable def v440 : CV := .ag [.int .i64 1, .int .i64 2, .im []]
noncomputable def v448 : CV := .ag [.int .i64 3, .int .i64 0, .im [v409, .ag [.int .i64 18, .int .i64 0, .im [.ag [.int .i64 5, .int .i64 0, .im [v387, .ag [.int .i64 12, .int .i64 0, .im [v440]]]]]]]]
noncomputable def v452 : CV := .ag [.int .i64 16, .int .i64 0, .im [v379, .ag [.int .i64 13, .int .i64 0, .im [v371, v379, v383, v440]]]]
noncomputable def v455 : CV := .im [v409, .ag [.int .i64 18, .int .i64 0, .im [v452]]]
noncomputable def v456 : CV := .ag [.int .i64 3, .int .i64 0, v455]
noncomputable def v457 : CV := .tp [v456, .int .i64 0]
noncomputable def v460 : CV := .ag [.int .i64 1, .int .i64 4, .im []]
noncomputable def v466 : CV := .ag [.int .i64 3, .int .i64 0, .im [v409, .ag [.int .i64 18, .int .i64 0, .im [.ag [.int .i64 5, .int .i64 0, .im [v387, v460]]]]]]
noncomputable def v470 : CV := .ag [.int .i64 18, .int .i64 0, .im [.ag [.int .i64 13, .int .i64 0, .im [v371, v379, v383, v460]]]]
noncomputable def v480 : CV := .ag [.int .i64 19, .int .i64 0, .im [.ag [.int .i64 26, .int .i64 0, .im [.ag [.int .i64 30, .int .i64 0, v438], v381]]]]
noncomputable def v481 : CV := .ag [.int .i64 1, .int .i64 3, .im []]
noncomputable def v482 : CV := .im [v371, v379, v383, v481]
noncomputable def v483 : CV := .ag [.int .i64 13, .int .i64 0, v482]
noncomputable def v485 : CV := .ag [.int .i64 18, .int .i64 0, .im [v483]]
noncomputable def v488 : CV := .tp [v421, .int .i64 0]
noncomputable def v491 : CV := .ag [.int .i64 4, .int .i64 0, .im [v409, v381]]
noncomputable def v502 : CV := .ag [.int .i64 4, .int .i64 0, .im [v409, .ag [.int .i64 19, .int .i64 0, .im [.ag [.int .i64 20, .int .i64 0, .im [v379, .ag [.int .i64 30, .int .i64 0, .im [.ag [.int .i64 5, .int .i64 0, .im [v440, v480]]]]]]]]]]
noncomputable def v503 : CV := .im [v411, v491, v502, v381]
noncomputable def v508 : CV := .im [v369, .ag [.int .i64 13, .int .i64 0, v503]]
noncomputable def v509 : CV := .ag [.int .i64 4, .int .i64 0, v508]
noncomputable def v511 : CV := .ag [v111, .int .i64 1, .int .i64 4, .int .i64 0, v508, .int .i64 3, .int .i64 0, v422]
noncomputable def v512 : CV := .im [v389, v511]
noncomputable def v514 : CV := .ag [.im [], .im [], v512]
noncomputable def v522 : CV := .ag [.int .i64 3, .int .i64 0, .im [v409, .ag [.int .i64 18, .int .i64 0, .im [.ag [.int .i64 13, .int .i64 0, .im [v371, v379, v383, v426]]]]]]
noncomputable def v526 : CV := .ag [.int .i64 25, .int .i64 0, .im []]
noncomputable def v528 : CV := .ag [.int .i64 19, .int .i64 0, .im [v526]]
noncomputable def v536 : CV := .str ⟨#[40, 100, 101, 102, 32, 102, 117, 110, 32, 40, 45, 62, 32, 78, 97, 116, 32, 84, 121, 41, 32, 40, 102, 110, 32, 110, 32, 40, 114, 101, 99, 32, 40, 107, 32, 84, 121, 41, 32, 73, 110, 116, 32, 40, 105, 32, 104, 32, 40, 45, 62, 32, 73, 110, 116, 32, 104, 41, 41, 32, 110, 41, 41, 41, 10, 40, 100, 101, 102, 32, 115, 117, 109, 32, 40, 112, 105, 32, 40, 110, 32, 78, 97, 116, 41, 32, 40, 45, 62, 32, 40, 108, 105, 102, 116, 32, 73, 110, 116, 41, 32, 40, 108, 105, 102, 116, 32, 40, 102, 117, 110, 32, 110, 41, 41, 41, 41, 32, 40, 102, 110, 32, 110, 32, 40, 114, 101, 99, 32, 40, 107, 32, 40, 45, 62, 32, 40, 108, 105, 102, 116, 32, 73, 110, 116, 41, 32, 40, 108, 105, 102, 116, 32, 40, 102, 117, 110, 32, 107, 41, 41, 41, 41, 32, 40, 102, 110, 32, 97, 32, 97, 41, 32, 40, 105, 32, 104, 32, 40, 102, 110, 32, 97, 32, 40, 102, 110, 32, 120, 32, 40, 104, 32, 40, 97, 100, 100, 32, 97, 32, 120, 41, 41, 41, 41, 41, 32, 110, 41, 41, 41, 10, 40, 100, 101, 102, 32, 109, 97, 105, 110, 32, 40, 115, 117, 109, 32, 49, 32, 48, 41, 41]⟩
noncomputable def v541 : CV := .im [v308, .ag [.int .i64 2, .int .i64 1, .str ⟨#[]⟩, .im []], v353]
noncomputable def v550 : CV := .ag [.int .i64 12, .int .i64 0, .im [v426]]
noncomputable def v556 : CV := .ag [.int .i64 3, .int .i64 0, .im [v409, .ag [.int .i64 18, .int .i64 0, .im [.ag [.int .i64 13, .int .i64 0, .im [v371, v379, v383, v550]]]]]]
noncomputable def v558 : CV := .ag [.int .i64 16, .int .i64 0, .im [v379, v379]]
noncomputable def v560 : CV := .ag [.int .i64 18, .int .i64 0, .im [v558]]
noncomputable def v576 : CV := .str ⟨#[40, 100, 101, 102, 32, 102, 117, 110, 32, 40, 45, 62, 32, 78, 97, 116, 32, 84, 121, 41, 32, 40, 102, 110, 32, 110, 32, 40, 114, 101, 99, 32, 40, 107, 32, 84, 121, 41, 32, 73, 110, 116, 32, 40, 105, 32, 104, 32, 40, 45, 62, 32, 73, 110, 116, 32, 104, 41, 41, 32, 110, 41, 41, 41, 10, 40, 100, 101, 102, 32, 115, 117, 109, 32, 40, 112, 105, 32, 40, 110, 32, 78, 97, 116, 41, 32, 40, 45, 62, 32, 40, 108, 105, 102, 116, 32, 73, 110, 116, 41, 32, 40, 108, 105, 102, 116, 32, 40, 102, 117, 110, 32, 110, 41, 41, 41, 41, 32, 40, 102, 110, 32, 110, 32, 40, 114, 101, 99, 32, 40, 107, 32, 40, 45, 62, 32, 40, 108, 105, 102, 116, 32, 73, 110, 116, 41, 32, 40, 108, 105, 102, 116, 32, 40, 102, 117, 110, 32, 107, 41, 41, 41, 41, 32, 40, 102, 110, 32, 97, 32, 97, 41, 32, 40, 105, 32, 104, 32, 40, 102, 110, 32, 97, 32, 40, 102, 110, 32, 120, 32, 40, 104, 32, 40, 97, 100, 100, 32, 97, 32, 120, 41, 41, 41, 41, 41, 32, 110, 41, 41, 41, 10, 40, 100, 101, 102, 32, 109, 97, 105, 110, 32, 40, 115, 117, 109, 32, 50, 32, 48, 41, 41]⟩
noncomputable def v581 : CV := .im [v308, .ag [.int .i64 2, .int .i64 2, .str ⟨#[]⟩, .im []], v353]
noncomputable def v590 : CV := .ag [.int .i64 12, .int .i64 0, .im [v550]]
noncomputable def v596 : CV := .ag [.int .i64 3, .int .i64 0, .im [v409, .ag [.int .i64 18, .int .i64 0, .im [.ag [.int .i64 13, .int .i64 0, .im [v371, v379, v383, v590]]]]]]
noncomputable def v598 : CV := .ag [.int .i64 16, .int .i64 0, .im [v379, v558]]
noncomputable def v600 : CV := .ag [.int .i64 18, .int .i64 0, .im [v598]]
noncomputable def v620 : CV := .str ⟨#[40, 100, 101, 102, 32, 102, 117, 110, 32, 40, 45, 62, 32, 78, 97, 116, 32, 84, 121, 41, 32, 40, 102, 110, 32, 110, 32, 40, 114, 101, 99, 32, 40, 107, 32, 84, 121, 41, 32, 73, 110, 116, 32, 40, 105, 32, 104, 32, 40, 45, 62, 32, 73, 110, 116, 32, 104, 41, 41, 32, 110, 41, 41, 41, 10, 40, 100, 101, 102, 32, 115, 117, 109, 32, 40, 112, 105, 32, 40, 110, 32, 78, 97, 116, 41, 32, 40, 45, 62, 32, 40, 108, 105, 102, 116, 32, 73, 110, 116, 41, 32, 40, 108, 105, 102, 116, 32, 40, 102, 117, 110, 32, 110, 41, 41, 41, 41, 32, 40, 102, 110, 32, 110, 32, 40, 114, 101, 99, 32, 40, 107, 32, 40, 45, 62, 32, 40, 108, 105, 102, 116, 32, 73, 110, 116, 41, 32, 40, 108, 105, 102, 116, 32, 40, 102, 117, 110, 32, 107, 41, 41, 41, 41, 32, 40, 102, 110, 32, 97, 32, 97, 41, 32, 40, 105, 32, 104, 32, 40, 102, 110, 32, 97, 32, 40, 102, 110, 32, 120, 32, 40, 104, 32, 40, 97, 100, 100, 32, 97, 32, 120, 41, 41, 41, 41, 41, 32, 110, 41, 41, 41, 10, 40, 100, 101, 102, 32, 109, 97, 105, 110, 32, 40, 115, 117, 109, 32, 51, 32, 48, 41, 41]⟩
noncomputable def v625 : CV := .im [v308, .ag [.int .i64 2, .int .i64 3, .str ⟨#[]⟩, .im []], v353]
noncomputable def v634 : CV := .ag [.int .i64 12, .int .i64 0, .im [v590]]
noncomputable def v640 : CV := .ag [.int .i64 3, .int .i64 0, .im [v409, .ag [.int .i64 18, .int .i64 0, .im [.ag [.int .i64 13, .int .i64 0, .im [v371, v379, v383, v634]]]]]]
noncomputable def v642 : CV := .ag [.int .i64 16, .int .i64 0, .im [v379, v598]]
noncomputable def v644 : CV := .ag [.int .i64 18, .int .i64 0, .im [v642]]
noncomputable def v657 : CV := .ag [.int .i64 30, .int .i64 0, .im [.ag [.int .i64 5, .int .i64 0, .im [.ag [.int .i64 5, .int .i64 0, .im [v509, v634]], v528]]]]
noncomputable def v658 : CV := .tp [v642, .int .i64 0]
noncomputable def v672 : CV := .str ⟨#[40, 100, 101, 102, 32, 102, 117, 110, 32, 40, 45, 62, 32, 78, 97, 116, 32, 84, 121, 41, 32, 40, 102, 110, 32, 110, 32, 40, 114, 101, 99, 32, 40, 107, 32, 84, 121, 41, 32, 73, 110, 116, 32, 40, 105, 32, 104, 32, 40, 45, 62, 32, 73, 110, 116, 32, 104, 41, 41, 32, 110, 41, 41, 41, 10, 40, 100, 101, 102, 32, 115, 117, 109, 32, 40, 112, 105, 32, 40, 110, 32, 78, 97, 116, 41, 32, 40, 45, 62, 32, 40, 108, 105, 102, 116, 32, 73, 110, 116, 41, 32, 40, 108, 105, 102, 116, 32, 40, 102, 117, 110, 32, 110, 41, 41, 41, 41, 32, 40, 102, 110, 32, 110, 32, 40, 114, 101, 99, 32, 40, 107, 32, 40, 45, 62, 32, 40, 108, 105, 102, 116, 32, 73, 110, 116, 41, 32, 40, 108, 105, 102, 116, 32, 40, 102, 117, 110, 32, 107, 41, 41, 41, 41, 32, 40, 102, 110, 32, 97, 32, 97, 41, 32, 40, 105, 32, 104, 32, 40, 102, 110, 32, 97, 32, 40, 102, 110, 32, 120, 32, 40, 104, 32, 40, 97, 100, 100, 32, 97, 32, 120, 41, 41, 41, 41, 41, 32, 110, 41, 41, 41, 10, 40, 100, 101, 102, 32, 109, 97, 105, 110, 32, 40, 115, 117, 109, 32, 52, 32, 48, 41, 41]⟩
noncomputable def v677 : CV := .im [v308, .ag [.int .i64 2, .int .i64 4, .str ⟨#[]⟩, .im []], v353]
noncomputable def v684 : CV := .im [v360, v361, .ag [v264, .int .i64 0, .int .i64 0, .str ⟨#[]⟩, .im [], .int .i64 3, .int .i64 0, .str ⟨#[]⟩, v677]]
noncomputable def v686 : CV := .ag [.int .i64 12, .int .i64 0, .im [v634]]
noncomputable def v692 : CV := .ag [.int .i64 3, .int .i64 0, .im [v409, .ag [.int .i64 18, .int .i64 0, .im [.ag [.int .i64 13, .int .i64 0, .im [v371, v379, v383, v686]]]]]]
noncomputable def v694 : CV := .ag [.int .i64 16, .int .i64 0, .im [v379, v642]]
noncomputable def v695 : CV := .im [v694]
noncomputable def v696 : CV := .ag [.int .i64 18, .int .i64 0, v695]
noncomputable def v703 : CV := .im [.ag [.int .i64 5, .int .i64 0, .im [v509, v686]], v528]
noncomputable def v709 : CV := .ag [.int .i64 30, .int .i64 0, .im [.ag [.int .i64 5, .int .i64 0, v703]]]
noncomputable def v710 : CV := .tp [v694, .int .i64 0]
noncomputable def v728 : CV := .str ⟨#[40, 100, 101, 102, 32, 102, 117, 110, 32, 40, 45, 62, 32, 78, 97, 116, 32, 84, 121, 41, 32, 40, 102, 110, 32, 110, 32, 40, 114, 101, 99, 32, 40, 107, 32, 84, 121, 41, 32, 73, 110, 116, 32, 40, 105, 32, 104, 32, 40, 45, 62, 32, 73, 110, 116, 32, 104, 41, 41, 32, 110, 41, 41, 41, 10, 40, 100, 101, 102, 32, 115, 117, 109, 32, 40, 112, 105, 32, 40, 110, 32, 78, 97, 116, 41, 32, 40, 45, 62, 32, 40, 108, 105, 102, 116, 32, 73, 110, 116, 41, 32, 40, 108, 105, 102, 116, 32, 40, 102, 117, 110, 32, 110, 41, 41, 41, 41, 32, 40, 102, 110, 32, 110, 32, 40, 114, 101, 99, 32, 40, 107, 32, 40, 45, 62, 32, 40, 108, 105, 102, 116, 32, 73, 110, 116, 41, 32, 40, 108, 105, 102, 116, 32, 40, 102, 117, 110, 32, 107, 41, 41, 41, 41, 32, 40, 102, 110, 32, 97, 32, 97, 41, 32, 40, 105, 32, 104, 32, 40, 102, 110, 32, 97, 32, 40, 102, 110, 32, 120, 32, 40, 104, 32, 40, 97, 100, 100, 32, 97, 32, 120, 41, 41, 41, 41, 41, 32, 110, 41, 41, 41, 10, 40, 100, 101, 102, 32, 109, 97, 105, 110, 32, 40, 115, 117, 109, 32, 53, 32, 48, 41, 41]⟩
noncomputable def v733 : CV := .im [v308, .ag [.int .i64 2, .int .i64 5, .str ⟨#[]⟩, .im []], v353]
noncomputable def v734 : CV := .ag [.int .i64 3, .int .i64 0, .str ⟨#[]⟩, v733]
noncomputable def v742 : CV := .ag [.int .i64 12, .int .i64 0, .im [v686]]
noncomputable def v748 : CV := .ag [.int .i64 3, .int .i64 0, .im [v409, .ag [.int .i64 18, .int .i64 0, .im [.ag [.int .i64 13, .int .i64 0, .im [v371, v379, v383, v742]]]]]]
noncomputable def v750 : CV := .ag [.int .i64 16, .int .i64 0, .im [v379, v694]]
noncomputable def v752 : CV := .ag [.int .i64 18, .int .i64 0, .im [v750]]
noncomputable def v760 : CV := .ag [.int .i64 5, .int .i64 0, .im [.ag [.int .i64 5, .int .i64 0, .im [v509, v742]], v528]]
noncomputable def v763 : CV := .ag [.int .i64 30, .int .i64 0, .im [v760]]
noncomputable def x65 : List CV := [.str ⟨#[85, 48, 32, 85, 49, 32, 85, 50, 32, 78, 97, 116, 32, 122, 101, 114, 111, 32, 84, 121, 32, 73, 110, 116, 32, 102, 110, 32, 112, 105, 32, 115, 105, 103, 32, 45, 62, 32, 42, 32, 112, 97, 105, 114, 32, 102, 115, 116, 32, 115, 110, 100, 32, 115, 117, 99, 32, 114, 101, 99, 32, 108, 105, 102, 116, 32, 113, 117, 111, 116, 101, 32, 115, 112, 108, 105, 99, 101, 32, 97, 100, 100, 32, 115, 117, 98, 32, 109, 117, 108, 32, 100, 105, 118, 32, 108, 101, 115, 115, 32, 105, 102, 32, 108, 101, 116, 32, 102, 105, 120, 32, 116, 104, 101, 32, 100, 101, 102]⟩]
noncomputable def y65 : CV := v31
noncomputable def x80 : List CV := [v32, .str ⟨#[]⟩]
noncomputable def y80 : CV := .bool false
noncomputable def x141 : List CV := []
noncomputable def y141 : CV := .bool true
noncomputable def x712 : List CV := [v36]
noncomputable def y712 : CV := .tp [.im [v39, v41, v44, v46, v48, v50, v52, v55, v57, v59, v62, v64, v66, v68, v71, v73, v75, v77, v79, v82, v85, v87, v89, v91, v93, v95, v97, v99, v101, v103, v105, v107, v109, v112, v114, v116, v118, v120, v122, v124, v126, v128, v130, v132, v134, v136, v138, v140, v142, v144, v146, v148, v150, v152, v154, v156, v158, v160, v162, v164, v166, v168, v170, v172, v174, v176, v178, v180, v182, v184, v186, v188, v190, v192, v194, v196, v198, v200, v202, v205, v207, v209, v211, v213, v215, v217, v219, v221, v223, v225, v228, v230, v232, v234, v236, v238, v240, v242, v244, v246, v248, v250, v252, v254, v256, v258, v260, v262, v265, v267, v269, .ag [.int .i64 4, .int .i64 0, .int .i64 227, .str ⟨#[]⟩], v274, v276, v278], .int .i64 0, .int .i64 0]
noncomputable def x742 : List CV := [v36]
noncomputable def y742 : CV := .tp [.im [v307, v351, .ag [.int .i64 3, .int .i64 0, .str ⟨#[]⟩, .im [v282, v352, .ag [.int .i64 3, .int .i64 0, .str ⟨#[]⟩, v354]]]], .int .i64 0, .int .i64 0]
noncomputable def x761 : List CV := [v305]
noncomputable def y761 : CV := v305
noncomputable def x788 : List CV := [v349]
noncomputable def y788 : CV := v349
noncomputable def x812 : List CV := [v32, v11]
noncomputable def y812 : CV := .bool false
noncomputable def x814 : List CV := [v31, v11]
noncomputable def y814 : CV := .bool true
noncomputable def x820 : List CV := [v31, v6]
noncomputable def y820 : CV := .bool true
noncomputable def x828 : List CV := [v32, v17]
noncomputable def y828 : CV := .bool false
noncomputable def x839 : List CV := [v31, v7]
noncomputable def y839 : CV := .bool true
noncomputable def x843 : List CV := [v31, v84]
noncomputable def y843 : CV := .bool false
noncomputable def x848 : List CV := [v31, v61]
noncomputable def y848 : CV := .bool false
noncomputable def x866 : List CV := [v32, v18]
noncomputable def y866 : CV := .bool false
noncomputable def x868 : List CV := [v31, v18]
noncomputable def y868 : CV := .bool true
noncomputable def x873 : List CV := [v32, v43]
noncomputable def y873 : CV := .bool false
noncomputable def x875 : List CV := [v31, v43]
noncomputable def y875 : CV := .bool false
noncomputable def x898 : List CV := [v31, v204]
noncomputable def y898 : CV := .bool false
noncomputable def x947 : List CV := [.im [v360, v361, .ag [v264, .int .i64 0, .int .i64 0, .str ⟨#[]⟩, .im [], .int .i64 3, .int .i64 0, .str ⟨#[]⟩, v354]]]
noncomputable def y947 : CV := v365
noncomputable def x972 : List CV := [.str ⟨#[97, 100, 100, 32, 115, 117, 98, 32, 109, 117, 108, 32, 100, 105, 118, 32, 108, 101, 115, 115]⟩]
noncomputable def y972 : CV := .im [v21, v22, v23, v24, v25]
noncomputable def x1007 : List CV := [v368, v288]
noncomputable def y1007 : CV := .tp [v373, .int .i64 1, v374, .int .i64 0]
noncomputable def x1019 : List CV := [v373]
noncomputable def y1019 : CV := .tp [v373, .int .i64 0]
noncomputable def x1122 : List CV := [v371, v371]
noncomputable def y1122 : CV := v377
noncomputable def x1163 : List CV := [v369, v369]
noncomputable def y1163 : CV := v377
noncomputable def x1195 : List CV := [v368, v305, .int .i64 1, v373]
noncomputable def y1195 : CV := .tp [v387, .int .i64 0]
noncomputable def x1198 : List CV := [v389, v391]
noncomputable def y1198 : CV := .bool false
noncomputable def x1258 : List CV := [v396, v290, .int .i64 1, v369]
noncomputable def y1258 : CV := .tp [v381, .int .i64 0]
noncomputable def x1309 : List CV := [.ag [.int .i64 18, .int .i64 0, .im [.ag [.int .i64 5, .int .i64 0, .im [v387, v381]]]], .int .i64 1, .int .i64 0]
noncomputable def y1309 : CV := v407
noncomputable def x1333 : List CV := [v411]
noncomputable def y1333 : CV := v411
noncomputable def x1335 : List CV := [v412, v322]
noncomputable def y1335 : CV := .tp [v414, .int .i64 1, v374, .int .i64 0]
noncomputable def x1337 : List CV := [v409]
noncomputable def y1337 : CV := .bool true
noncomputable def x1346 : List CV := [v387]
noncomputable def y1346 : CV := .bool true
noncomputable def x1359 : List CV := [v414]
noncomputable def y1359 : CV := v424
noncomputable def x1458 : List CV := [v411, .int .i64 0, v426]
noncomputable def y1458 : CV := v432
noncomputable def x1466 : List CV := [v432]
noncomputable def y1466 : CV := v435
noncomputable def x1476 : List CV := [v409]
noncomputable def y1476 : CV := .tp [v409, .int .i64 0]
noncomputable def x1512 : List CV := [v411, .int .i64 2, .int .i64 1]
noncomputable def y1512 : CV := v411
noncomputable def x1538 : List CV := [v411, .int .i64 0, .ag [.int .i64 12, .int .i64 0, v438]]
noncomputable def y1538 : CV := v448
noncomputable def x1553 : List CV := [v448]
noncomputable def y1553 : CV := v457
noncomputable def x1563 : List CV := [v341]
noncomputable def y1563 : CV := .tp [v8, .im [v334, v339]]
noncomputable def x1597 : List CV := [v411, .int .i64 3, .int .i64 0]
noncomputable def y1597 : CV := v466
noncomputable def x1608 : List CV := [v466]
noncomputable def y1608 : CV := .tp [.ag [.int .i64 3, .int .i64 0, .im [v409, v470]], .int .i64 0]
noncomputable def x1623 : List CV := [v379, v379]
noncomputable def y1623 : CV := v377
noncomputable def x1650 : List CV := [v470, .int .i64 0, v480]
noncomputable def y1650 : CV := v485
noncomputable def x1657 : List CV := [v485]
noncomputable def y1657 : CV := .tp [v485, .int .i64 0]
noncomputable def x1670 : List CV := [v483]
noncomputable def y1670 : CV := .ag [.int .i64 13, .int .i64 0, v482, .int .i64 0]
noncomputable def x1709 : List CV := [v411, .int .i64 0, v381]
noncomputable def y1709 : CV := v411
noncomputable def x1716 : List CV := [v411]
noncomputable def y1716 : CV := v488
noncomputable def x1719 : List CV := [v396, .im [v330, v333, v345, v290]]
noncomputable def y1719 : CV := .tp [.ag [.int .i64 13, .int .i64 0, v503, .int .i64 1, .int .i64 3, .int .i64 0, v420], .int .i64 0]
noncomputable def x1724 : List CV := [v421]
noncomputable def y1724 : CV := .bool true
noncomputable def x1733 : List CV := [v421]
noncomputable def y1733 : CV := .ag [.int .i64 3, .int .i64 0, v420, .int .i64 0]
noncomputable def x1771 : List CV := [v509]
noncomputable def y1771 : CV := v509
noncomputable def x1772 : List CV := [v412, v349, .int .i64 1, v423]
noncomputable def y1772 : CV := .tp [v509, .int .i64 0]
noncomputable def x1777 : List CV := [v512, .fn (.func 167) [] [v391]]
noncomputable def y1777 : CV := .bool false
noncomputable def x1792 : List CV := [v514, v308]
noncomputable def y1792 : CV := .tp [.ag [.int .i64 4, .int .i64 0, v508, .int .i64 1, .int .i64 3, .int .i64 0, v422], .int .i64 0]
noncomputable def x1805 : List CV := [v421, .int .i64 0, v426]
noncomputable def y1805 : CV := v522
noncomputable def x1809 : List CV := [v522]
noncomputable def y1809 : CV := v435
noncomputable def x1954 : List CV := [v434]
noncomputable def y1954 : CV := v435
noncomputable def x2040 : List CV := [v452]
noncomputable def y2040 : CV := .bool true
noncomputable def x2053 : List CV := [v456]
noncomputable def y2053 : CV := v457
noncomputable def x2063 : List CV := [v456]
noncomputable def y2063 : CV := .ag [.int .i64 3, .int .i64 0, v455, .int .i64 0]
noncomputable def x2076 : List CV := [.im [v393, v393, .ag [.int .i64 1, .int .i64 3, .int .i64 0, v410]], .int .i64 1, v502, v456]
noncomputable def y2076 : CV := .int .i64 0
noncomputable def x2081 : List CV := [v394, v411, v491, v502, v381]
noncomputable def y2081 : CV := v488
noncomputable def x2093 : List CV := [.im [], .int .i64 1, v509, .int .i64 3]
noncomputable def y2093 : CV := v424
noncomputable def x2110 : List CV := [.im [], .int .i64 1, v528, v409]
noncomputable def y2110 : CV := .int .i64 0
noncomputable def x2133 : List CV := [v509]
noncomputable def y2133 : CV := .bool true
noncomputable def x2152 : List CV := [.ag [.int .i64 30, .int .i64 0, .im [.ag [.int .i64 5, .int .i64 0, .im [.ag [.int .i64 5, .int .i64 0, .im [v509, v426]], v528]]]]]
noncomputable def y2152 : CV := .tp [v526, .int .i64 0]
noncomputable def x2181 : List CV := [v509]
noncomputable def y2181 : CV := v509
noncomputable def x2697 : List CV := [v536]
noncomputable def y2697 : CV := .tp [.im [v39, v41, v44, v46, v48, v50, v52, v55, v57, v59, v62, v64, v66, v68, v71, v73, v75, v77, v79, v82, v85, v87, v89, v91, v93, v95, v97, v99, v101, v103, v105, v107, v109, v112, v114, v116, v118, v120, v122, v124, v126, v128, v130, v132, v134, v136, v138, v140, v142, v144, v146, v148, v150, v152, v154, v156, v158, v160, v162, v164, v166, v168, v170, v172, v174, v176, v178, v180, v182, v184, v186, v188, v190, v192, v194, v196, v198, v200, v202, v205, v207, v209, v211, v213, v215, v217, v219, v221, v223, v225, v228, v230, v232, v234, v236, v238, v240, v242, v244, v246, v248, v250, v252, v254, v256, v258, v260, v262, v265, v267, v269, .ag [.int .i64 4, .int .i64 1, .int .i64 227, .str ⟨#[]⟩], v274, v276, v278], .int .i64 0, .int .i64 0]
noncomputable def x2701 : List CV := [v536]
noncomputable def y2701 : CV := .tp [.im [v307, v351, .ag [.int .i64 3, .int .i64 0, .str ⟨#[]⟩, .im [v282, v352, .ag [.int .i64 3, .int .i64 0, .str ⟨#[]⟩, v541]]]], .int .i64 0, .int .i64 0]
noncomputable def x2713 : List CV := [.im [v360, v361, .ag [v264, .int .i64 0, .int .i64 0, .str ⟨#[]⟩, .im [], .int .i64 3, .int .i64 0, .str ⟨#[]⟩, v541]]]
noncomputable def y2713 : CV := v365
noncomputable def x2737 : List CV := [v421, .int .i64 0, v550]
noncomputable def y2737 : CV := v556
noncomputable def x2744 : List CV := [v556]
noncomputable def y2744 : CV := .tp [.ag [.int .i64 3, .int .i64 0, .im [v409, v560]], .int .i64 0]
noncomputable def x2753 : List CV := [v560]
noncomputable def y2753 : CV := .tp [v560, .int .i64 0]
noncomputable def x2837 : List CV := [.ag [.int .i64 30, .int .i64 0, .im [.ag [.int .i64 5, .int .i64 0, .im [.ag [.int .i64 5, .int .i64 0, .im [v509, v550]], v528]]]]]
noncomputable def y2837 : CV := .tp [.ag [.int .i64 20, .int .i64 0, .im [v379, .ag [.int .i64 26, .int .i64 0, .im [v526, v381]]]], .int .i64 0]
noncomputable def x3393 : List CV := [v576]
noncomputable def y3393 : CV := .tp [.im [v39, v41, v44, v46, v48, v50, v52, v55, v57, v59, v62, v64, v66, v68, v71, v73, v75, v77, v79, v82, v85, v87, v89, v91, v93, v95, v97, v99, v101, v103, v105, v107, v109, v112, v114, v116, v118, v120, v122, v124, v126, v128, v130, v132, v134, v136, v138, v140, v142, v144, v146, v148, v150, v152, v154, v156, v158, v160, v162, v164, v166, v168, v170, v172, v174, v176, v178, v180, v182, v184, v186, v188, v190, v192, v194, v196, v198, v200, v202, v205, v207, v209, v211, v213, v215, v217, v219, v221, v223, v225, v228, v230, v232, v234, v236, v238, v240, v242, v244, v246, v248, v250, v252, v254, v256, v258, v260, v262, v265, v267, v269, .ag [.int .i64 4, .int .i64 2, .int .i64 227, .str ⟨#[]⟩], v274, v276, v278], .int .i64 0, .int .i64 0]
noncomputable def x3397 : List CV := [v576]
noncomputable def y3397 : CV := .tp [.im [v307, v351, .ag [.int .i64 3, .int .i64 0, .str ⟨#[]⟩, .im [v282, v352, .ag [.int .i64 3, .int .i64 0, .str ⟨#[]⟩, v581]]]], .int .i64 0, .int .i64 0]
noncomputable def x3411 : List CV := [.im [v360, v361, .ag [v264, .int .i64 0, .int .i64 0, .str ⟨#[]⟩, .im [], .int .i64 3, .int .i64 0, .str ⟨#[]⟩, v581]]]
noncomputable def y3411 : CV := v365
noncomputable def x3435 : List CV := [v421, .int .i64 0, v590]
noncomputable def y3435 : CV := v596
noncomputable def x3442 : List CV := [v596]
noncomputable def y3442 : CV := .tp [.ag [.int .i64 3, .int .i64 0, .im [v409, v600]], .int .i64 0]
noncomputable def x3451 : List CV := [v600]
noncomputable def y3451 : CV := .tp [v600, .int .i64 0]
noncomputable def x3473 : List CV := [.im [], .int .i64 1, v590, v369]
noncomputable def y3473 : CV := .int .i64 0
noncomputable def x3521 : List CV := [.ag [.int .i64 30, .int .i64 0, .im [.ag [.int .i64 5, .int .i64 0, .im [.ag [.int .i64 5, .int .i64 0, .im [v509, v590]], v528]]]]]
noncomputable def y3521 : CV := .tp [.ag [.int .i64 20, .int .i64 0, .im [v379, .ag [.int .i64 20, .int .i64 0, .im [v379, .ag [.int .i64 26, .int .i64 0, .im [.ag [.int .i64 26, .int .i64 0, .im [v526, v403]], v381]]]]]], .int .i64 0]
noncomputable def x4104 : List CV := [v620]
noncomputable def y4104 : CV := .tp [.im [v39, v41, v44, v46, v48, v50, v52, v55, v57, v59, v62, v64, v66, v68, v71, v73, v75, v77, v79, v82, v85, v87, v89, v91, v93, v95, v97, v99, v101, v103, v105, v107, v109, v112, v114, v116, v118, v120, v122, v124, v126, v128, v130, v132, v134, v136, v138, v140, v142, v144, v146, v148, v150, v152, v154, v156, v158, v160, v162, v164, v166, v168, v170, v172, v174, v176, v178, v180, v182, v184, v186, v188, v190, v192, v194, v196, v198, v200, v202, v205, v207, v209, v211, v213, v215, v217, v219, v221, v223, v225, v228, v230, v232, v234, v236, v238, v240, v242, v244, v246, v248, v250, v252, v254, v256, v258, v260, v262, v265, v267, v269, .ag [.int .i64 4, .int .i64 3, .int .i64 227, .str ⟨#[]⟩], v274, v276, v278], .int .i64 0, .int .i64 0]
noncomputable def x4108 : List CV := [v620]
noncomputable def y4108 : CV := .tp [.im [v307, v351, .ag [.int .i64 3, .int .i64 0, .str ⟨#[]⟩, .im [v282, v352, .ag [.int .i64 3, .int .i64 0, .str ⟨#[]⟩, v625]]]], .int .i64 0, .int .i64 0]
noncomputable def x4122 : List CV := [.im [v360, v361, .ag [v264, .int .i64 0, .int .i64 0, .str ⟨#[]⟩, .im [], .int .i64 3, .int .i64 0, .str ⟨#[]⟩, v625]]]
noncomputable def y4122 : CV := v365
noncomputable def x4146 : List CV := [v421, .int .i64 0, v634]
noncomputable def y4146 : CV := v640
noncomputable def x4153 : List CV := [v640]
noncomputable def y4153 : CV := .tp [.ag [.int .i64 3, .int .i64 0, .im [v409, v644]], .int .i64 0]
noncomputable def x4157 : List CV := [v642, .int .i64 0, .fn (.func 214) [] [.ep false (.int .i64 0) 0, .ep true v528 0]]
noncomputable def y4157 : CV := v642
noncomputable def x4162 : List CV := [v644]
noncomputable def y4162 : CV := .tp [v644, .int .i64 0]
noncomputable def x4201 : List CV := [.im [], .int .i64 0, v657]
noncomputable def y4201 : CV := v658
noncomputable def x4228 : List CV := [v657]
noncomputable def y4228 : CV := .tp [.ag [.int .i64 20, .int .i64 0, .im [v379, .ag [.int .i64 20, .int .i64 0, .im [v379, .ag [.int .i64 20, .int .i64 0, .im [v379, .ag [.int .i64 26, .int .i64 0, .im [.ag [.int .i64 26, .int .i64 0, .im [.ag [.int .i64 26, .int .i64 0, .im [v526, v440]], v403]], v381]]]]]]]], .int .i64 0]
noncomputable def x4278 : List CV := [v642, .int .i64 0]
noncomputable def y4278 : CV := v658
noncomputable def x4828 : List CV := [v672]
noncomputable def y4828 : CV := .tp [.im [v39, v41, v44, v46, v48, v50, v52, v55, v57, v59, v62, v64, v66, v68, v71, v73, v75, v77, v79, v82, v85, v87, v89, v91, v93, v95, v97, v99, v101, v103, v105, v107, v109, v112, v114, v116, v118, v120, v122, v124, v126, v128, v130, v132, v134, v136, v138, v140, v142, v144, v146, v148, v150, v152, v154, v156, v158, v160, v162, v164, v166, v168, v170, v172, v174, v176, v178, v180, v182, v184, v186, v188, v190, v192, v194, v196, v198, v200, v202, v205, v207, v209, v211, v213, v215, v217, v219, v221, v223, v225, v228, v230, v232, v234, v236, v238, v240, v242, v244, v246, v248, v250, v252, v254, v256, v258, v260, v262, v265, v267, v269, .ag [.int .i64 4, .int .i64 4, .int .i64 227, .str ⟨#[]⟩], v274, v276, v278], .int .i64 0, .int .i64 0]
noncomputable def x4832 : List CV := [v672]
noncomputable def y4832 : CV := .tp [.im [v307, v351, .ag [.int .i64 3, .int .i64 0, .str ⟨#[]⟩, .im [v282, v352, .ag [.int .i64 3, .int .i64 0, .str ⟨#[]⟩, v677]]]], .int .i64 0, .int .i64 0]
noncomputable def x4846 : List CV := [v684]
noncomputable def y4846 : CV := v365
noncomputable def x4870 : List CV := [v421, .int .i64 0, v686]
noncomputable def y4870 : CV := v692
noncomputable def x4877 : List CV := [v692]
noncomputable def y4877 : CV := .tp [.ag [.int .i64 3, .int .i64 0, .im [v409, v696]], .int .i64 0]
noncomputable def x4884 : List CV := [v694]
noncomputable def y4884 : CV := .bool true
noncomputable def x4886 : List CV := [v696]
noncomputable def y4886 : CV := .tp [v696, .int .i64 0]
noncomputable def x4900 : List CV := [v684]
noncomputable def y4900 : CV := .tp [.im [v389, v511, .ag [v264, .int .i64 1, .int .i64 5, .int .i64 0, v703, .int .i64 18, .int .i64 0, v695]], .int .i64 0]
noncomputable def x4925 : List CV := [.im [], .int .i64 0, v709]
noncomputable def y4925 : CV := v710
noncomputable def x4927 : List CV := [v694, v694]
noncomputable def y4927 : CV := .bool true
noncomputable def x4943 : List CV := [v709]
noncomputable def y4943 : CV := .tp [.ag [.int .i64 20, .int .i64 0, .im [v379, .ag [.int .i64 20, .int .i64 0, .im [v379, .ag [.int .i64 20, .int .i64 0, .im [v379, .ag [.int .i64 20, .int .i64 0, .im [v379, .ag [.int .i64 26, .int .i64 0, .im [.ag [.int .i64 26, .int .i64 0, .im [.ag [.int .i64 26, .int .i64 0, .im [.ag [.int .i64 26, .int .i64 0, .im [v526, v481]], v440]], v403]], v381]]]]]]]]]], .int .i64 0]
noncomputable def x5008 : List CV := [v694, .int .i64 0]
noncomputable def y5008 : CV := v710
noncomputable def x5563 : List CV := [v728]
noncomputable def y5563 : CV := .tp [.im [v39, v41, v44, v46, v48, v50, v52, v55, v57, v59, v62, v64, v66, v68, v71, v73, v75, v77, v79, v82, v85, v87, v89, v91, v93, v95, v97, v99, v101, v103, v105, v107, v109, v112, v114, v116, v118, v120, v122, v124, v126, v128, v130, v132, v134, v136, v138, v140, v142, v144, v146, v148, v150, v152, v154, v156, v158, v160, v162, v164, v166, v168, v170, v172, v174, v176, v178, v180, v182, v184, v186, v188, v190, v192, v194, v196, v198, v200, v202, v205, v207, v209, v211, v213, v215, v217, v219, v221, v223, v225, v228, v230, v232, v234, v236, v238, v240, v242, v244, v246, v248, v250, v252, v254, v256, v258, v260, v262, v265, v267, v269, .ag [.int .i64 4, .int .i64 5, .int .i64 227, .str ⟨#[]⟩], v274, v276, v278], .int .i64 0, .int .i64 0]
noncomputable def x5567 : List CV := [v728]
noncomputable def y5567 : CV := .tp [.im [v307, v351, .ag [.int .i64 3, .int .i64 0, .str ⟨#[]⟩, .im [v282, v352, v734]]], .int .i64 0, .int .i64 0]
noncomputable def x5581 : List CV := [.im [v360, v361, .ag [v264, .int .i64 0, .int .i64 0, .str ⟨#[]⟩, .im [], .int .i64 3, .int .i64 0, .str ⟨#[]⟩, v733]]]
noncomputable def y5581 : CV := v365
noncomputable def x5605 : List CV := [v421, .int .i64 0, v742]
noncomputable def y5605 : CV := v748
noncomputable def x5612 : List CV := [v748]
noncomputable def y5612 : CV := .tp [.ag [.int .i64 3, .int .i64 0, .im [v409, v752]], .int .i64 0]
noncomputable def x5621 : List CV := [v752]
noncomputable def y5621 : CV := .tp [v752, .int .i64 0]
noncomputable def x5634 : List CV := [v514, v734]
noncomputable def y5634 : CV := .tp [v760, .int .i64 1, v752, .int .i64 0]
noncomputable def x5660 : List CV := [.im [], .int .i64 0, v763]
noncomputable def y5660 : CV := .tp [v750, .int .i64 0]
noncomputable def x5672 : List CV := [v763]
noncomputable def y5672 : CV := .tp [.ag [.int .i64 20, .int .i64 0, .im [v379, .ag [.int .i64 20, .int .i64 0, .im [v379, .ag [.int .i64 20, .int .i64 0, .im [v379, .ag [.int .i64 20, .int .i64 0, .im [v379, .ag [.int .i64 20, .int .i64 0, .im [v379, .ag [.int .i64 26, .int .i64 0, .im [.ag [.int .i64 26, .int .i64 0, .im [.ag [.int .i64 26, .int .i64 0, .im [.ag [.int .i64 26, .int .i64 0, .im [.ag [.int .i64 26, .int .i64 0, .im [v526, v460]], v481]], v440]], v403]], v381]]]]]]]]]]]], .int .i64 0]
end Go.Proofs.YthndchidnkbgiaaGreatDoor
