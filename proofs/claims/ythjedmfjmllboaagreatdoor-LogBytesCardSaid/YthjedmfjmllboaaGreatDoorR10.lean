/- The evaluator's word on some of the written calls of awake, by the kernel. Conditions: none. -/
import Derived.Test.YthjedmfjmllboaaGreatDoorL
namespace Go.Proofs.YthjedmfjmllboaaGreatDoor
open Go Go.Ev
set_option maxRecDepth 1000000
theorem r10 : runM E [e0] 20000 e10 = true := by kernel_rfl
theorem w10 : e10.wf = true := by kernel_rfl
theorem r22 : runM E [e21] 20000 e22 = true := by kernel_rfl
theorem w22 : e22.wf = true := by kernel_rfl
theorem r34 : runM E [e33] 20000 e34 = true := by kernel_rfl
theorem w34 : e34.wf = true := by kernel_rfl
theorem r46 : runM E [e42] 20000 e46 = true := by kernel_rfl
theorem w46 : e46.wf = true := by kernel_rfl
theorem r70 : runM E [e66] 20000 e70 = true := by kernel_rfl
theorem w70 : e70.wf = true := by kernel_rfl
theorem r82 : runM E [e81] 20000 e82 = true := by kernel_rfl
theorem w82 : e82.wf = true := by kernel_rfl
theorem r94 : runM E [e93] 20000 e94 = true := by kernel_rfl
theorem w94 : e94.wf = true := by kernel_rfl
theorem r106 : runM E [e105] 20000 e106 = true := by kernel_rfl
theorem w106 : e106.wf = true := by kernel_rfl
theorem r118 : runM E [] 20000 e118 = true := by kernel_rfl
theorem w118 : e118.wf = true := by kernel_rfl
theorem r130 : runM E [e129, e127, e125] 20000 e130 = true := by kernel_rfl
theorem w130 : e130.wf = true := by kernel_rfl
end Go.Proofs.YthjedmfjmllboaaGreatDoor
