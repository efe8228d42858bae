/- The evaluator's word on some of the written calls of TokenNames, by the kernel. Conditions: none. -/
import Derived.Test.YtiimhfmdhofffaaGreatDoorLT
namespace Go.Proofs.YtiimhfmdhofffaaGreatDoor
open Go Go.Ev
set_option maxRecDepth 1000000
theorem r2 : runM E [e1] 20000 e2 = true := by kernel_rfl
theorem w2 : e2.wf = true := by kernel_rfl
theorem r12 : runM E [e11] 20000 e12 = true := by kernel_rfl
theorem w12 : e12.wf = true := by kernel_rfl
theorem r22 : runM E [e19] 20000 e22 = true := by kernel_rfl
theorem w22 : e22.wf = true := by kernel_rfl
theorem r32 : runM E [] 20000 e32 = true := by kernel_rfl
theorem w32 : e32.wf = true := by kernel_rfl
theorem r42 : runM E [e32, e30] 20000 e42 = true := by kernel_rfl
theorem w42 : e42.wf = true := by kernel_rfl
end Go.Proofs.YtiimhfmdhofffaaGreatDoor
