/- The evaluator's word on some of the written calls of TokenNames, by the kernel. Conditions: none. -/
import Derived.Test.YtiimhfmdhofffaaGreatDoorLT
namespace Go.Proofs.YtiimhfmdhofffaaGreatDoor
open Go Go.Ev
set_option maxRecDepth 1000000
theorem r6 : runM E [e5] 20000 e6 = true := by kernel_rfl
theorem w6 : e6.wf = true := by kernel_rfl
theorem r16 : runM E [e15] 20000 e16 = true := by kernel_rfl
theorem w16 : e16.wf = true := by kernel_rfl
theorem r26 : runM E [e25, e24, e23, e22, e21] 20000 e26 = true := by kernel_rfl
theorem w26 : e26.wf = true := by kernel_rfl
theorem r36 : runM E [e33] 20000 e36 = true := by kernel_rfl
theorem w36 : e36.wf = true := by kernel_rfl
theorem r46 : runM E [e45, e44, e37, e35, e3] 20000 e46 = true := by kernel_rfl
theorem w46 : e46.wf = true := by kernel_rfl
end Go.Proofs.YtiimhfmdhofffaaGreatDoor
