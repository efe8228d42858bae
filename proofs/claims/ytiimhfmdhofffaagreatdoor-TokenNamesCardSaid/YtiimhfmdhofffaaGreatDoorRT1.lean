/- The evaluator's word on some of the written calls of TokenNames, by the kernel. Conditions: none. -/
import Derived.Test.YtiimhfmdhofffaaGreatDoorLT
namespace Go.Proofs.YtiimhfmdhofffaaGreatDoor
open Go Go.Ev
set_option maxRecDepth 1000000
theorem r1 : runM E [e0] 20000 e1 = true := by kernel_rfl
theorem w1 : e1.wf = true := by kernel_rfl
theorem r11 : runM E [e0] 20000 e11 = true := by kernel_rfl
theorem w11 : e11.wf = true := by kernel_rfl
theorem r21 : runM E [e19] 20000 e21 = true := by kernel_rfl
theorem w21 : e21.wf = true := by kernel_rfl
theorem r31 : runM E [e30] 20000 e31 = true := by kernel_rfl
theorem w31 : e31.wf = true := by kernel_rfl
theorem r41 : runM E [e32, e30] 20000 e41 = true := by kernel_rfl
theorem w41 : e41.wf = true := by kernel_rfl
end Go.Proofs.YtiimhfmdhofffaaGreatDoor
