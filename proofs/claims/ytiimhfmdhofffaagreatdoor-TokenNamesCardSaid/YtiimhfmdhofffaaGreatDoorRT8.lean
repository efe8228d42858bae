/- The evaluator's word on some of the written calls of TokenNames, by the kernel. Conditions: none. -/
import Derived.Test.YtiimhfmdhofffaaGreatDoorLT
namespace Go.Proofs.YtiimhfmdhofffaaGreatDoor
open Go Go.Ev
set_option maxRecDepth 1000000
theorem r8 : runM E [e7] 20000 e8 = true := by kernel_rfl
theorem w8 : e8.wf = true := by kernel_rfl
theorem r18 : runM E [e17] 20000 e18 = true := by kernel_rfl
theorem w18 : e18.wf = true := by kernel_rfl
theorem r28 : runM E [e7] 20000 e28 = true := by kernel_rfl
theorem w28 : e28.wf = true := by kernel_rfl
theorem r38 : runM E [e32, e31, e26, e20] 20000 e38 = true := by kernel_rfl
theorem w38 : e38.wf = true := by kernel_rfl
end Go.Proofs.YtiimhfmdhofffaaGreatDoor
