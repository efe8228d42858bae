/- The evaluator's word on some of the written calls of awake, by the kernel. Conditions: none. -/
import Derived.Test.YthjedmfjmllboaaGreatDoorL
namespace Go.Proofs.YthjedmfjmllboaaGreatDoor
open Go Go.Ev
set_option maxRecDepth 1000000
theorem r9 : runM E [e8] 20000 e9 = true := by kernel_rfl
theorem w9 : e9.wf = true := by kernel_rfl
theorem r21 : runM E [e20] 20000 e21 = true := by kernel_rfl
theorem w21 : e21.wf = true := by kernel_rfl
theorem r33 : runM E [e32, e31, e30] 20000 e33 = true := by kernel_rfl
theorem w33 : e33.wf = true := by kernel_rfl
theorem r45 : runM E [e44, e34] 20000 e45 = true := by kernel_rfl
theorem w45 : e45.wf = true := by kernel_rfl
theorem r69 : runM E [e68, e34] 20000 e69 = true := by kernel_rfl
theorem w69 : e69.wf = true := by kernel_rfl
theorem r81 : runM E [e37, e33] 20000 e81 = true := by kernel_rfl
theorem w81 : e81.wf = true := by kernel_rfl
theorem r93 : runM E [e89] 20000 e93 = true := by kernel_rfl
theorem w93 : e93.wf = true := by kernel_rfl
theorem r105 : runM E [e37, e33] 20000 e105 = true := by kernel_rfl
theorem w105 : e105.wf = true := by kernel_rfl
theorem r117 : runM E [e116, e114] 20000 e117 = true := by kernel_rfl
theorem w117 : e117.wf = true := by kernel_rfl
theorem r129 : runM E [e128] 20000 e129 = true := by kernel_rfl
theorem w129 : e129.wf = true := by kernel_rfl
end Go.Proofs.YthjedmfjmllboaaGreatDoor
