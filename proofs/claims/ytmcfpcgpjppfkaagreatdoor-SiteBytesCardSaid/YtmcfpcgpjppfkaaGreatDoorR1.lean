/- The evaluator's word on some of the written calls of awake, by the kernel. Conditions: none. -/
import Derived.Test.YtmcfpcgpjppfkaaGreatDoorL
namespace Go.Proofs.YtmcfpcgpjppfkaaGreatDoor
open Go Go.Ev
set_option maxRecDepth 1000000
theorem r1 : runM E [e0] 20000 e1 = true := by kernel_rfl
theorem w1 : e1.wf = true := by kernel_rfl
theorem r11 : runM E [e10] 20000 e11 = true := by kernel_rfl
theorem w11 : e11.wf = true := by kernel_rfl
theorem r21 : runM E [e20] 20000 e21 = true := by kernel_rfl
theorem w21 : e21.wf = true := by kernel_rfl
theorem r31 : runM E [e30, e29, e28] 20000 e31 = true := by kernel_rfl
theorem w31 : e31.wf = true := by kernel_rfl
theorem r41 : runM E [e34, e31] 20000 e41 = true := by kernel_rfl
theorem w41 : e41.wf = true := by kernel_rfl
theorem r51 : runM E [e34, e31] 20000 e51 = true := by kernel_rfl
theorem w51 : e51.wf = true := by kernel_rfl
theorem r61 : runM E [e34, e31] 20000 e61 = true := by kernel_rfl
theorem w61 : e61.wf = true := by kernel_rfl
theorem r71 : runM E [e70, e63, e60, e53, e50, e43, e40, e35, e33] 20000 e71 = true := by kernel_rfl
theorem w71 : e71.wf = true := by kernel_rfl
end Go.Proofs.YtmcfpcgpjppfkaaGreatDoor
