/- The evaluator's word on some of the written calls of awake, by the kernel. Conditions: none. -/
import Derived.Test.YthjedmfjmllboaaGreatDoorL
namespace Go.Proofs.YthjedmfjmllboaaGreatDoor
open Go Go.Ev
set_option maxRecDepth 1000000
theorem r7 : runM E [e6] 20000 e7 = true := by kernel_rfl
theorem w7 : e7.wf = true := by kernel_rfl
theorem r19 : runM E [e18] 20000 e19 = true := by kernel_rfl
theorem w19 : e19.wf = true := by kernel_rfl
theorem r31 : runM E [e8] 20000 e31 = true := by kernel_rfl
theorem w31 : e31.wf = true := by kernel_rfl
theorem r43 : runM E [e42] 20000 e43 = true := by kernel_rfl
theorem w43 : e43.wf = true := by kernel_rfl
theorem r67 : runM E [e66] 20000 e67 = true := by kernel_rfl
theorem w67 : e67.wf = true := by kernel_rfl
theorem r79 : runM E [e78, e34] 20000 e79 = true := by kernel_rfl
theorem w79 : e79.wf = true := by kernel_rfl
theorem r91 : runM E [e90] 20000 e91 = true := by kernel_rfl
theorem w91 : e91.wf = true := by kernel_rfl
theorem r103 : runM E [e37, e33] 20000 e103 = true := by kernel_rfl
theorem w103 : e103.wf = true := by kernel_rfl
theorem r115 : runM E [e111] 20000 e115 = true := by kernel_rfl
theorem w115 : e115.wf = true := by kernel_rfl
theorem r127 : runM E [e126] 20000 e127 = true := by kernel_rfl
theorem w127 : e127.wf = true := by kernel_rfl
end Go.Proofs.YthjedmfjmllboaaGreatDoor
