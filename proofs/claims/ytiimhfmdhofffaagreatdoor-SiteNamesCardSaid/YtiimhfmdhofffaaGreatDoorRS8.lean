/- The evaluator's word on some of the written calls of SiteNames, by the kernel. Conditions: none. -/
import Derived.Test.YtiimhfmdhofffaaGreatDoorLS
namespace Go.Proofs.YtiimhfmdhofffaaGreatDoor
open Go Go.Ev
set_option maxRecDepth 1000000
theorem r8 : runM E [e0] 20000 e8 = true := by kernel_rfl
theorem w8 : e8.wf = true := by kernel_rfl
theorem r18 : runM E [e0] 20000 e18 = true := by kernel_rfl
theorem w18 : e18.wf = true := by kernel_rfl
theorem r28 : runM E [e6] 20000 e28 = true := by kernel_rfl
theorem w28 : e28.wf = true := by kernel_rfl
theorem r38 : runM E [e34, e31] 20000 e38 = true := by kernel_rfl
theorem w38 : e38.wf = true := by kernel_rfl
theorem r48 : runM E [e34, e31] 20000 e48 = true := by kernel_rfl
theorem w48 : e48.wf = true := by kernel_rfl
theorem r58 : runM E [e34, e31] 20000 e58 = true := by kernel_rfl
theorem w58 : e58.wf = true := by kernel_rfl
theorem r68 : runM E [e34, e31] 20000 e68 = true := by kernel_rfl
theorem w68 : e68.wf = true := by kernel_rfl
theorem r78 : runM E [e77] 20000 e78 = true := by kernel_rfl
theorem w78 : e78.wf = true := by kernel_rfl
theorem r88 : runM E [] 20000 e88 = true := by kernel_rfl
theorem w88 : e88.wf = true := by kernel_rfl
end Go.Proofs.YtiimhfmdhofffaaGreatDoor
