/- The evaluator's word on some of the written calls of awake, by the kernel. Conditions: none. -/
import Derived.Test.YthjedmfjmllboaaGreatDoorL
namespace Go.Proofs.YthjedmfjmllboaaGreatDoor
open Go Go.Ev
set_option maxRecDepth 1000000
theorem r1 : runM E [e0] 20000 e1 = true := by kernel_rfl
theorem w1 : e1.wf = true := by kernel_rfl
theorem r13 : runM E [e12] 20000 e13 = true := by kernel_rfl
theorem w13 : e13.wf = true := by kernel_rfl
theorem r25 : runM E [e20] 20000 e25 = true := by kernel_rfl
theorem w25 : e25.wf = true := by kernel_rfl
theorem r37 : runM E [] 20000 e37 = true := by kernel_rfl
theorem w37 : e37.wf = true := by kernel_rfl
theorem r49 : runM E [e48, e46] 20000 e49 = true := by kernel_rfl
theorem w49 : e49.wf = true := by kernel_rfl
theorem r73 : runM E [e72, e65, e63, e50, e41, e38, e36] 20000 e73 = true := by kernel_rfl
theorem w73 : e73.wf = true := by kernel_rfl
theorem r85 : runM E [e84, e82, e80] 20000 e85 = true := by kernel_rfl
theorem w85 : e85.wf = true := by kernel_rfl
theorem r97 : runM E [e96] 20000 e97 = true := by kernel_rfl
theorem w97 : e97.wf = true := by kernel_rfl
theorem r109 : runM E [] 20000 e109 = true := by kernel_rfl
theorem w109 : e109.wf = true := by kernel_rfl
theorem r121 : runM E [e37, e33] 20000 e121 = true := by kernel_rfl
theorem w121 : e121.wf = true := by kernel_rfl
theorem r133 : runM E [e132, e73, e62, e4] 20000 e133 = true := by kernel_rfl
theorem w133 : e133.wf = true := by kernel_rfl
end Go.Proofs.YthjedmfjmllboaaGreatDoor
