/- The evaluator's word on some of the written calls of awake, by the kernel. Conditions: none. -/
import Derived.Test.YthjedmfjmllboaaGreatDoorL
namespace Go.Proofs.YthjedmfjmllboaaGreatDoor
open Go Go.Ev
set_option maxRecDepth 1000000
theorem r0 : runM E [] 20000 e0 = true := by kernel_rfl
theorem w0 : e0.wf = true := by kernel_rfl
theorem r12 : runM E [e0] 20000 e12 = true := by kernel_rfl
theorem w12 : e12.wf = true := by kernel_rfl
theorem r24 : runM E [e20] 20000 e24 = true := by kernel_rfl
theorem w24 : e24.wf = true := by kernel_rfl
theorem r36 : runM E [e35, e23] 20000 e36 = true := by kernel_rfl
theorem w36 : e36.wf = true := by kernel_rfl
theorem r48 : runM E [e47] 20000 e48 = true := by kernel_rfl
theorem w48 : e48.wf = true := by kernel_rfl
theorem r72 : runM E [e71, e69] 20000 e72 = true := by kernel_rfl
theorem w72 : e72.wf = true := by kernel_rfl
theorem r84 : runM E [e83] 20000 e84 = true := by kernel_rfl
theorem w84 : e84.wf = true := by kernel_rfl
theorem r96 : runM E [] 20000 e96 = true := by kernel_rfl
theorem w96 : e96.wf = true := by kernel_rfl
theorem r108 : runM E [e107, e101] 20000 e108 = true := by kernel_rfl
theorem w108 : e108.wf = true := by kernel_rfl
theorem r120 : runM E [e119] 20000 e120 = true := by kernel_rfl
theorem w120 : e120.wf = true := by kernel_rfl
theorem r132 : runM E [e131, e120, e118, e117, e110, e109, e108, e97, e96, e95, e88, e87, e86, e75, e74, e72, e65, e63, e50, e41, e38, e36] 20000 e132 = true := by kernel_rfl
theorem w132 : e132.wf = true := by kernel_rfl
end Go.Proofs.YthjedmfjmllboaaGreatDoor
