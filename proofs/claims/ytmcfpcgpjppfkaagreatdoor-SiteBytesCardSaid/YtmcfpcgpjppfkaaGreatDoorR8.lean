/- The evaluator's word on some of the written calls of awake, by the kernel. Conditions: none. -/
import Derived.Test.YtmcfpcgpjppfkaaGreatDoorL
namespace Go.Proofs.YtmcfpcgpjppfkaaGreatDoor
open Go Go.Ev
set_option maxRecDepth 1000000
theorem r8 : runM E [e0] 20000 e8 = true := by kernel_rfl
theorem w8 : e8.wf = true := by kernel_rfl
theorem r18 : runM E [e0] 20000 e18 = true := by kernel_rfl
theorem w18 : e18.wf = true := by kernel_rfl
theorem r28 : runM E [e6] 20000 e28 = true := by kernel_rfl
theorem w28 : e28.wf = true := by kernel_rfl
theorem r38 : runM E [e34, e31] 20000 e38 = true := by kernel_rfl
theorem w38 : e38.wf = true := by kernel_rfl
theorem r48 : runM E [e34, e31] 20000 e48 = true := by kernel_rfl
theorem w48 : e48.wf = true := by kernel_rfl
theorem r58 : runM E [e34, e31] 20000 e58 = true := by kernel_rfl
theorem w58 : e58.wf = true := by kernel_rfl
theorem r68 : runM E [e34, e31] 20000 e68 = true := by kernel_rfl
theorem w68 : e68.wf = true := by kernel_rfl
end Go.Proofs.YtmcfpcgpjppfkaaGreatDoor
