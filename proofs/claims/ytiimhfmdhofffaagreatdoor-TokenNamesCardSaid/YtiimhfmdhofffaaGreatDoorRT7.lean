/- The evaluator's word on some of the written calls of TokenNames, by the kernel. Conditions: none. -/
import Derived.Test.YtiimhfmdhofffaaGreatDoorLT
namespace Go.Proofs.YtiimhfmdhofffaaGreatDoor
open Go Go.Ev
set_option maxRecDepth 1000000
theorem r7 : runM E [e0] 20000 e7 = true := by kernel_rfl
theorem w7 : e7.wf = true := by kernel_rfl
theorem r17 : runM E [e0] 20000 e17 = true := by kernel_rfl
theorem w17 : e17.wf = true := by kernel_rfl
theorem r27 : runM E [e5] 20000 e27 = true := by kernel_rfl
theorem w27 : e27.wf = true := by kernel_rfl
theorem r37 : runM E [e2] 20000 e37 = true := by kernel_rfl
theorem w37 : e37.wf = true := by kernel_rfl
theorem r47 : runM E [e46, e43, e42, e41, e40, e39, e37, e36, e35, e34, e26, e3] 20000 e47 = true := by kernel_rfl
theorem w47 : e47.wf = true := by kernel_rfl
end Go.Proofs.YtiimhfmdhofffaaGreatDoor
