/- The evaluator's word on some of the written calls of awake, by the kernel. Conditions: none. -/
import Derived.Test.YthjedmfjmllboaaGreatDoorL
namespace Go.Proofs.YthjedmfjmllboaaGreatDoor
open Go Go.Ev
set_option maxRecDepth 1000000
theorem r3 : runM E [e2] 20000 e3 = true := by kernel_rfl
theorem w3 : e3.wf = true := by kernel_rfl
theorem r15 : runM E [e14] 20000 e15 = true := by kernel_rfl
theorem w15 : e15.wf = true := by kernel_rfl
theorem r27 : runM E [e20] 20000 e27 = true := by kernel_rfl
theorem w27 : e27.wf = true := by kernel_rfl
theorem r39 : runM E [e38] 20000 e39 = true := by kernel_rfl
theorem w39 : e39.wf = true := by kernel_rfl
theorem r63 : runM E [] 20000 e63 = true := by kernel_rfl
theorem w63 : e63.wf = true := by kernel_rfl
theorem r75 : runM E [e74] 20000 e75 = true := by kernel_rfl
theorem w75 : e75.wf = true := by kernel_rfl
theorem r87 : runM E [] 20000 e87 = true := by kernel_rfl
theorem w87 : e87.wf = true := by kernel_rfl
theorem r99 : runM E [e98] 20000 e99 = true := by kernel_rfl
theorem w99 : e99.wf = true := by kernel_rfl
theorem r111 : runM E [e37, e33] 20000 e111 = true := by kernel_rfl
theorem w111 : e111.wf = true := by kernel_rfl
theorem r123 : runM E [e122] 20000 e123 = true := by kernel_rfl
theorem w123 : e123.wf = true := by kernel_rfl
end Go.Proofs.YthjedmfjmllboaaGreatDoor
