/- The evaluator's word on some of the written calls of awake, by the kernel. Conditions: none. -/
import Derived.Test.YtmcfpcgpjppfkaaGreatDoorL
namespace Go.Proofs.YtmcfpcgpjppfkaaGreatDoor
open Go Go.Ev
set_option maxRecDepth 1000000
theorem r6 : runM E [e0] 20000 e6 = true := by kernel_rfl
theorem w6 : e6.wf = true := by kernel_rfl
theorem r16 : runM E [e0] 20000 e16 = true := by kernel_rfl
theorem w16 : e16.wf = true := by kernel_rfl
theorem r26 : runM E [e20] 20000 e26 = true := by kernel_rfl
theorem w26 : e26.wf = true := by kernel_rfl
theorem r36 : runM E [e34, e31] 20000 e36 = true := by kernel_rfl
theorem w36 : e36.wf = true := by kernel_rfl
theorem r46 : runM E [e34, e31] 20000 e46 = true := by kernel_rfl
theorem w46 : e46.wf = true := by kernel_rfl
theorem r56 : runM E [e34, e31] 20000 e56 = true := by kernel_rfl
theorem w56 : e56.wf = true := by kernel_rfl
theorem r66 : runM E [e34, e31] 20000 e66 = true := by kernel_rfl
theorem w66 : e66.wf = true := by kernel_rfl
theorem r76 : runM E [e75, e74, e73, e72, e4] 20000 e76 = true := by kernel_rfl
theorem w76 : e76.wf = true := by kernel_rfl
end Go.Proofs.YtmcfpcgpjppfkaaGreatDoor
