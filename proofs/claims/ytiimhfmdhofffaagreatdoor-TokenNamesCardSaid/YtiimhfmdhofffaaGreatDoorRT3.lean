/- The evaluator's word on some of the written calls of TokenNames, by the kernel. Conditions: none. -/
import Derived.Test.YtiimhfmdhofffaaGreatDoorLT
namespace Go.Proofs.YtiimhfmdhofffaaGreatDoor
open Go Go.Ev
set_option maxRecDepth 1000000
theorem r3 : runM E [e2] 20000 e3 = true := by kernel_rfl
theorem w3 : e3.wf = true := by kernel_rfl
theorem r13 : runM E [e0] 20000 e13 = true := by kernel_rfl
theorem w13 : e13.wf = true := by kernel_rfl
theorem r23 : runM E [e19] 20000 e23 = true := by kernel_rfl
theorem w23 : e23.wf = true := by kernel_rfl
theorem r33 : runM E [e32, e31, e26, e20] 20000 e33 = true := by kernel_rfl
theorem w33 : e33.wf = true := by kernel_rfl
theorem r43 : runM E [e33] 20000 e43 = true := by kernel_rfl
theorem w43 : e43.wf = true := by kernel_rfl
end Go.Proofs.YtiimhfmdhofffaaGreatDoor
