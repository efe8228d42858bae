/- The evaluator's word on some of the written calls of awake, by the kernel. Conditions: none. -/
import Derived.Test.YthjedmfjmllboaaGreatDoorL
namespace Go.Proofs.YthjedmfjmllboaaGreatDoor
open Go Go.Ev
set_option maxRecDepth 1000000
theorem r5 : runM E [] 20000 e5 = true := by kernel_rfl
theorem w5 : e5.wf = true := by kernel_rfl
theorem r17 : runM E [e16] 20000 e17 = true := by kernel_rfl
theorem w17 : e17.wf = true := by kernel_rfl
theorem r29 : runM E [e28, e27, e26, e25, e24] 20000 e29 = true := by kernel_rfl
theorem w29 : e29.wf = true := by kernel_rfl
theorem r41 : runM E [e40, e34] 20000 e41 = true := by kernel_rfl
theorem w41 : e41.wf = true := by kernel_rfl
theorem r65 : runM E [e64] 20000 e65 = true := by kernel_rfl
theorem w65 : e65.wf = true := by kernel_rfl
theorem r77 : runM E [e76] 20000 e77 = true := by kernel_rfl
theorem w77 : e77.wf = true := by kernel_rfl
theorem r89 : runM E [e37, e33] 20000 e89 = true := by kernel_rfl
theorem w89 : e89.wf = true := by kernel_rfl
theorem r101 : runM E [e100, e34] 20000 e101 = true := by kernel_rfl
theorem w101 : e101.wf = true := by kernel_rfl
theorem r113 : runM E [e112] 20000 e113 = true := by kernel_rfl
theorem w113 : e113.wf = true := by kernel_rfl
theorem r125 : runM E [e121] 20000 e125 = true := by kernel_rfl
theorem w125 : e125.wf = true := by kernel_rfl
end Go.Proofs.YthjedmfjmllboaaGreatDoor
