/- The evaluator's word on some of the written calls of awake, by the kernel. Conditions: none. -/
import Derived.Test.YthjedmfjmllboaaGreatDoorL
namespace Go.Proofs.YthjedmfjmllboaaGreatDoor
open Go Go.Ev
set_option maxRecDepth 1000000
theorem r4 : runM E [e3] 20000 e4 = true := by kernel_rfl
theorem w4 : e4.wf = true := by kernel_rfl
theorem r16 : runM E [e0] 20000 e16 = true := by kernel_rfl
theorem w16 : e16.wf = true := by kernel_rfl
theorem r28 : runM E [e20] 20000 e28 = true := by kernel_rfl
theorem w28 : e28.wf = true := by kernel_rfl
theorem r40 : runM E [e39] 20000 e40 = true := by kernel_rfl
theorem w40 : e40.wf = true := by kernel_rfl
theorem r64 : runM E [] 20000 e64 = true := by kernel_rfl
theorem w64 : e64.wf = true := by kernel_rfl
theorem r76 : runM E [e37, e33] 20000 e76 = true := by kernel_rfl
theorem w76 : e76.wf = true := by kernel_rfl
theorem r88 : runM E [e87] 20000 e88 = true := by kernel_rfl
theorem w88 : e88.wf = true := by kernel_rfl
theorem r100 : runM E [e99] 20000 e100 = true := by kernel_rfl
theorem w100 : e100.wf = true := by kernel_rfl
theorem r112 : runM E [e111] 20000 e112 = true := by kernel_rfl
theorem w112 : e112.wf = true := by kernel_rfl
theorem r124 : runM E [e123, e34] 20000 e124 = true := by kernel_rfl
theorem w124 : e124.wf = true := by kernel_rfl
end Go.Proofs.YthjedmfjmllboaaGreatDoor
