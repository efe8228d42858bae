/- The evaluator's word on some of the written calls of SiteNames, by the kernel. Conditions: none. -/
import Derived.Test.YtiimhfmdhofffaaGreatDoorLS
namespace Go.Proofs.YtiimhfmdhofffaaGreatDoor
open Go Go.Ev
set_option maxRecDepth 1000000
theorem r7 : runM E [e6] 20000 e7 = true := by kernel_rfl
theorem w7 : e7.wf = true := by kernel_rfl
theorem r17 : runM E [e16] 20000 e17 = true := by kernel_rfl
theorem w17 : e17.wf = true := by kernel_rfl
theorem r27 : runM E [e26, e25, e24, e23, e22] 20000 e27 = true := by kernel_rfl
theorem w27 : e27.wf = true := by kernel_rfl
theorem r37 : runM E [e36] 20000 e37 = true := by kernel_rfl
theorem w37 : e37.wf = true := by kernel_rfl
theorem r47 : runM E [e46] 20000 e47 = true := by kernel_rfl
theorem w47 : e47.wf = true := by kernel_rfl
theorem r57 : runM E [e56] 20000 e57 = true := by kernel_rfl
theorem w57 : e57.wf = true := by kernel_rfl
theorem r67 : runM E [e66] 20000 e67 = true := by kernel_rfl
theorem w67 : e67.wf = true := by kernel_rfl
theorem r77 : runM E [e76, e73] 20000 e77 = true := by kernel_rfl
theorem w77 : e77.wf = true := by kernel_rfl
theorem r87 : runM E [e86] 20000 e87 = true := by kernel_rfl
theorem w87 : e87.wf = true := by kernel_rfl
theorem r97 : runM E [e96, e91, e90, e89, e87, e84, e81, e78, e72, e27, e4] 20000 e97 = true := by kernel_rfl
theorem w97 : e97.wf = true := by kernel_rfl
end Go.Proofs.YtiimhfmdhofffaaGreatDoor
