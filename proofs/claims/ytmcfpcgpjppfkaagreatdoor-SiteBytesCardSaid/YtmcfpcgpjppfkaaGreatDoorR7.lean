/- The evaluator's word on some of the written calls of awake, by the kernel. Conditions: none. -/
import Derived.Test.YtmcfpcgpjppfkaaGreatDoorL
namespace Go.Proofs.YtmcfpcgpjppfkaaGreatDoor
open Go Go.Ev
set_option maxRecDepth 1000000
theorem r7 : runM E [e6] 20000 e7 = true := by kernel_rfl
theorem w7 : e7.wf = true := by kernel_rfl
theorem r17 : runM E [e16] 20000 e17 = true := by kernel_rfl
theorem w17 : e17.wf = true := by kernel_rfl
theorem r27 : runM E [e26, e25, e24, e23, e22] 20000 e27 = true := by kernel_rfl
theorem w27 : e27.wf = true := by kernel_rfl
theorem r37 : runM E [e36] 20000 e37 = true := by kernel_rfl
theorem w37 : e37.wf = true := by kernel_rfl
theorem r47 : runM E [e46] 20000 e47 = true := by kernel_rfl
theorem w47 : e47.wf = true := by kernel_rfl
theorem r57 : runM E [e56] 20000 e57 = true := by kernel_rfl
theorem w57 : e57.wf = true := by kernel_rfl
theorem r67 : runM E [e66] 20000 e67 = true := by kernel_rfl
theorem w67 : e67.wf = true := by kernel_rfl
end Go.Proofs.YtmcfpcgpjppfkaaGreatDoor
