/- The evaluator's word on some of the written calls of TokenNames, by the kernel. Conditions: none. -/
import Derived.Test.YtiimhfmdhofffaaGreatDoorLT
namespace Go.Proofs.YtiimhfmdhofffaaGreatDoor
open Go Go.Ev
set_option maxRecDepth 1000000
theorem r9 : runM E [e0] 20000 e9 = true := by kernel_rfl
theorem w9 : e9.wf = true := by kernel_rfl
theorem r19 : runM E [e18, e16, e14, e12, e10, e8, e6, e4] 20000 e19 = true := by kernel_rfl
theorem w19 : e19.wf = true := by kernel_rfl
theorem r29 : runM E [e13] 20000 e29 = true := by kernel_rfl
theorem w29 : e29.wf = true := by kernel_rfl
theorem r39 : runM E [e38] 20000 e39 = true := by kernel_rfl
theorem w39 : e39.wf = true := by kernel_rfl
end Go.Proofs.YtiimhfmdhofffaaGreatDoor
