/- The evaluator's word on some of the written calls of awake, by the kernel. Conditions: none. -/
import Derived.Test.YthjedmfjmllboaaGreatDoorL
namespace Go.Proofs.YthjedmfjmllboaaGreatDoor
open Go Go.Ev
set_option maxRecDepth 1000000
theorem r6 : runM E [e0] 20000 e6 = true := by kernel_rfl
theorem w6 : e6.wf = true := by kernel_rfl
theorem r18 : runM E [e0] 20000 e18 = true := by kernel_rfl
theorem w18 : e18.wf = true := by kernel_rfl
theorem r30 : runM E [e6] 20000 e30 = true := by kernel_rfl
theorem w30 : e30.wf = true := by kernel_rfl
theorem r42 : runM E [e37, e33] 20000 e42 = true := by kernel_rfl
theorem w42 : e42.wf = true := by kernel_rfl
theorem r66 : runM E [e37, e33] 20000 e66 = true := by kernel_rfl
theorem w66 : e66.wf = true := by kernel_rfl
theorem r78 : runM E [e77] 20000 e78 = true := by kernel_rfl
theorem w78 : e78.wf = true := by kernel_rfl
theorem r90 : runM E [e89] 20000 e90 = true := by kernel_rfl
theorem w90 : e90.wf = true := by kernel_rfl
theorem r102 : runM E [e98] 20000 e102 = true := by kernel_rfl
theorem w102 : e102.wf = true := by kernel_rfl
theorem r114 : runM E [e113, e34] 20000 e114 = true := by kernel_rfl
theorem w114 : e114.wf = true := by kernel_rfl
theorem r126 : runM E [e37, e33] 20000 e126 = true := by kernel_rfl
theorem w126 : e126.wf = true := by kernel_rfl
end Go.Proofs.YthjedmfjmllboaaGreatDoor
