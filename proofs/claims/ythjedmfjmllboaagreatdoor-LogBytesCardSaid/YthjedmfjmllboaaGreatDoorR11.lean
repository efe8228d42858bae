/- The evaluator's word on some of the written calls of awake, by the kernel. Conditions: none. -/
import Derived.Test.YthjedmfjmllboaaGreatDoorL
namespace Go.Proofs.YthjedmfjmllboaaGreatDoor
open Go Go.Ev
set_option maxRecDepth 1000000
theorem r11 : runM E [e10] 20000 e11 = true := by kernel_rfl
theorem w11 : e11.wf = true := by kernel_rfl
theorem r23 : runM E [e22] 20000 e23 = true := by kernel_rfl
theorem w23 : e23.wf = true := by kernel_rfl
theorem r35 : runM E [e34, e29, e23] 20000 e35 = true := by kernel_rfl
theorem w35 : e35.wf = true := by kernel_rfl
theorem r47 : runM E [e37, e33] 20000 e47 = true := by kernel_rfl
theorem w47 : e47.wf = true := by kernel_rfl
theorem r71 : runM E [e70] 20000 e71 = true := by kernel_rfl
theorem w71 : e71.wf = true := by kernel_rfl
theorem r83 : runM E [e37, e33] 20000 e83 = true := by kernel_rfl
theorem w83 : e83.wf = true := by kernel_rfl
theorem r95 : runM E [e94, e92] 20000 e95 = true := by kernel_rfl
theorem w95 : e95.wf = true := by kernel_rfl
theorem r107 : runM E [e106, e104, e102] 20000 e107 = true := by kernel_rfl
theorem w107 : e107.wf = true := by kernel_rfl
theorem r119 : runM E [] 20000 e119 = true := by kernel_rfl
theorem w119 : e119.wf = true := by kernel_rfl
theorem r131 : runM E [e130, e124] 20000 e131 = true := by kernel_rfl
theorem w131 : e131.wf = true := by kernel_rfl
end Go.Proofs.YthjedmfjmllboaaGreatDoor
