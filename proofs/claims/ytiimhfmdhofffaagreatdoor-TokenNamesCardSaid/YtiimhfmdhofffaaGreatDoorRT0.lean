/- The evaluator's word on some of the written calls of TokenNames, by the kernel. Conditions: none. -/
import Derived.Test.YtiimhfmdhofffaaGreatDoorLT
namespace Go.Proofs.YtiimhfmdhofffaaGreatDoor
open Go Go.Ev
set_option maxRecDepth 1000000
theorem r0 : runM E [] 20000 e0 = true := by kernel_rfl
theorem w0 : e0.wf = true := by kernel_rfl
theorem r10 : runM E [e9] 20000 e10 = true := by kernel_rfl
theorem w10 : e10.wf = true := by kernel_rfl
theorem r20 : runM E [e19] 20000 e20 = true := by kernel_rfl
theorem w20 : e20.wf = true := by kernel_rfl
theorem r30 : runM E [e29, e28, e27] 20000 e30 = true := by kernel_rfl
theorem w30 : e30.wf = true := by kernel_rfl
theorem r40 : runM E [e32, e30] 20000 e40 = true := by kernel_rfl
theorem w40 : e40.wf = true := by kernel_rfl
end Go.Proofs.YtiimhfmdhofffaaGreatDoor
