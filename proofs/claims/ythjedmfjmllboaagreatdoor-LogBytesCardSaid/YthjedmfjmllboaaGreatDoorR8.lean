/- The evaluator's word on some of the written calls of awake, by the kernel. Conditions: none. -/
import Derived.Test.YthjedmfjmllboaaGreatDoorL
namespace Go.Proofs.YthjedmfjmllboaaGreatDoor
open Go Go.Ev
set_option maxRecDepth 1000000
theorem r8 : runM E [e0] 20000 e8 = true := by kernel_rfl
theorem w8 : e8.wf = true := by kernel_rfl
theorem r20 : runM E [e19, e17, e15, e13, e11, e9, e7, e5] 20000 e20 = true := by kernel_rfl
theorem w20 : e20.wf = true := by kernel_rfl
theorem r32 : runM E [e14] 20000 e32 = true := by kernel_rfl
theorem w32 : e32.wf = true := by kernel_rfl
theorem r44 : runM E [e43] 20000 e44 = true := by kernel_rfl
theorem w44 : e44.wf = true := by kernel_rfl
theorem r68 : runM E [e67] 20000 e68 = true := by kernel_rfl
theorem w68 : e68.wf = true := by kernel_rfl
theorem r80 : runM E [e76] 20000 e80 = true := by kernel_rfl
theorem w80 : e80.wf = true := by kernel_rfl
theorem r92 : runM E [e91, e34] 20000 e92 = true := by kernel_rfl
theorem w92 : e92.wf = true := by kernel_rfl
theorem r104 : runM E [e103] 20000 e104 = true := by kernel_rfl
theorem w104 : e104.wf = true := by kernel_rfl
theorem r116 : runM E [e115] 20000 e116 = true := by kernel_rfl
theorem w116 : e116.wf = true := by kernel_rfl
theorem r128 : runM E [e37, e33] 20000 e128 = true := by kernel_rfl
theorem w128 : e128.wf = true := by kernel_rfl
end Go.Proofs.YthjedmfjmllboaaGreatDoor
