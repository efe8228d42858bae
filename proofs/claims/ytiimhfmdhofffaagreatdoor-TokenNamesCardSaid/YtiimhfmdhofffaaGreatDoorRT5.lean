/- The evaluator's word on some of the written calls of TokenNames, by the kernel. Conditions: none. -/
import Derived.Test.YtiimhfmdhofffaaGreatDoorLT
namespace Go.Proofs.YtiimhfmdhofffaaGreatDoor
open Go Go.Ev
set_option maxRecDepth 1000000
theorem r5 : runM E [e0] 20000 e5 = true := by kernel_rfl
theorem w5 : e5.wf = true := by kernel_rfl
theorem r15 : runM E [e0] 20000 e15 = true := by kernel_rfl
theorem w15 : e15.wf = true := by kernel_rfl
theorem r25 : runM E [e19] 20000 e25 = true := by kernel_rfl
theorem w25 : e25.wf = true := by kernel_rfl
theorem r35 : runM E [e33] 20000 e35 = true := by kernel_rfl
theorem w35 : e35.wf = true := by kernel_rfl
theorem r45 : runM E [e38] 20000 e45 = true := by kernel_rfl
theorem w45 : e45.wf = true := by kernel_rfl
end Go.Proofs.YtiimhfmdhofffaaGreatDoor
