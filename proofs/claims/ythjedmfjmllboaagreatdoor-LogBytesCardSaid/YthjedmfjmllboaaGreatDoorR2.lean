/- The evaluator's word on some of the written calls of awake, by the kernel. Conditions: none. -/
import Derived.Test.YthjedmfjmllboaaGreatDoorL
namespace Go.Proofs.YthjedmfjmllboaaGreatDoor
open Go Go.Ev
set_option maxRecDepth 1000000
theorem r2 : runM E [e1] 20000 e2 = true := by kernel_rfl
theorem w2 : e2.wf = true := by kernel_rfl
theorem r14 : runM E [e0] 20000 e14 = true := by kernel_rfl
theorem w14 : e14.wf = true := by kernel_rfl
theorem r26 : runM E [e20] 20000 e26 = true := by kernel_rfl
theorem w26 : e26.wf = true := by kernel_rfl
theorem r38 : runM E [e37, e33] 20000 e38 = true := by kernel_rfl
theorem w38 : e38.wf = true := by kernel_rfl
theorem r50 : runM E [e49, e45] 20000 e50 = true := by kernel_rfl
theorem w50 : e50.wf = true := by kernel_rfl
theorem r62 : runM E [] 20000 e62 = true := by kernel_rfl
theorem w62 : e62.wf = true := by kernel_rfl
theorem r74 : runM E [] 20000 e74 = true := by kernel_rfl
theorem w74 : e74.wf = true := by kernel_rfl
theorem r86 : runM E [e85, e79] 20000 e86 = true := by kernel_rfl
theorem w86 : e86.wf = true := by kernel_rfl
theorem r98 : runM E [e37, e33] 20000 e98 = true := by kernel_rfl
theorem w98 : e98.wf = true := by kernel_rfl
theorem r110 : runM E [e109] 20000 e110 = true := by kernel_rfl
theorem w110 : e110.wf = true := by kernel_rfl
theorem r122 : runM E [e121] 20000 e122 = true := by kernel_rfl
theorem w122 : e122.wf = true := by kernel_rfl
end Go.Proofs.YthjedmfjmllboaaGreatDoor
