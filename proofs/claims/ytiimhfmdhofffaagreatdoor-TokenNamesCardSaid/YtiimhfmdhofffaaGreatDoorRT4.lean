/- The evaluator's word on some of the written calls of TokenNames, by the kernel. Conditions: none. -/
import Derived.Test.YtiimhfmdhofffaaGreatDoorLT
namespace Go.Proofs.YtiimhfmdhofffaaGreatDoor
open Go Go.Ev
set_option maxRecDepth 1000000
theorem r4 : runM E [] 20000 e4 = true := by kernel_rfl
theorem w4 : e4.wf = true := by kernel_rfl
theorem r14 : runM E [e13] 20000 e14 = true := by kernel_rfl
theorem w14 : e14.wf = true := by kernel_rfl
theorem r24 : runM E [e19] 20000 e24 = true := by kernel_rfl
theorem w24 : e24.wf = true := by kernel_rfl
theorem r34 : runM E [e33] 20000 e34 = true := by kernel_rfl
theorem w34 : e34.wf = true := by kernel_rfl
theorem r44 : runM E [e33] 20000 e44 = true := by kernel_rfl
theorem w44 : e44.wf = true := by kernel_rfl
end Go.Proofs.YtiimhfmdhofffaaGreatDoor
