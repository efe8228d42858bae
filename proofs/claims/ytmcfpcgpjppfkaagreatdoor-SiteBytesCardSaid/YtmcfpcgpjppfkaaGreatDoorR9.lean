/- The evaluator's word on some of the written calls of awake, by the kernel. Conditions: none. -/
import Derived.Test.YtmcfpcgpjppfkaaGreatDoorL
namespace Go.Proofs.YtmcfpcgpjppfkaaGreatDoor
open Go Go.Ev
set_option maxRecDepth 1000000
theorem r9 : runM E [e8] 20000 e9 = true := by kernel_rfl
theorem w9 : e9.wf = true := by kernel_rfl
theorem r19 : runM E [e18] 20000 e19 = true := by kernel_rfl
theorem w19 : e19.wf = true := by kernel_rfl
theorem r29 : runM E [e8] 20000 e29 = true := by kernel_rfl
theorem w29 : e29.wf = true := by kernel_rfl
theorem r39 : runM E [e38] 20000 e39 = true := by kernel_rfl
theorem w39 : e39.wf = true := by kernel_rfl
theorem r49 : runM E [e48] 20000 e49 = true := by kernel_rfl
theorem w49 : e49.wf = true := by kernel_rfl
theorem r59 : runM E [e58] 20000 e59 = true := by kernel_rfl
theorem w59 : e59.wf = true := by kernel_rfl
theorem r69 : runM E [e68] 20000 e69 = true := by kernel_rfl
theorem w69 : e69.wf = true := by kernel_rfl
end Go.Proofs.YtmcfpcgpjppfkaaGreatDoor
