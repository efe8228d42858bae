/- The evaluator's word on some of the written calls of awake, by the kernel. Conditions: none. -/
import Derived.Test.YtmcfpcgpjppfkaaGreatDoorL
namespace Go.Proofs.YtmcfpcgpjppfkaaGreatDoor
open Go Go.Ev
set_option maxRecDepth 1000000
theorem r4 : runM E [e3] 20000 e4 = true := by kernel_rfl
theorem w4 : e4.wf = true := by kernel_rfl
theorem r14 : runM E [e0] 20000 e14 = true := by kernel_rfl
theorem w14 : e14.wf = true := by kernel_rfl
theorem r24 : runM E [e20] 20000 e24 = true := by kernel_rfl
theorem w24 : e24.wf = true := by kernel_rfl
theorem r34 : runM E [] 20000 e34 = true := by kernel_rfl
theorem w34 : e34.wf = true := by kernel_rfl
theorem r44 : runM E [e34, e31] 20000 e44 = true := by kernel_rfl
theorem w44 : e44.wf = true := by kernel_rfl
theorem r54 : runM E [e34, e31] 20000 e54 = true := by kernel_rfl
theorem w54 : e54.wf = true := by kernel_rfl
theorem r64 : runM E [e34, e31] 20000 e64 = true := by kernel_rfl
theorem w64 : e64.wf = true := by kernel_rfl
theorem r74 : runM E [e71] 20000 e74 = true := by kernel_rfl
theorem w74 : e74.wf = true := by kernel_rfl
end Go.Proofs.YtmcfpcgpjppfkaaGreatDoor
