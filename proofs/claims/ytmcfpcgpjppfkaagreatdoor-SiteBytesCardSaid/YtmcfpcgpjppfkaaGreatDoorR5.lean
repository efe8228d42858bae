/- The evaluator's word on some of the written calls of awake, by the kernel. Conditions: none. -/
import Derived.Test.YtmcfpcgpjppfkaaGreatDoorL
namespace Go.Proofs.YtmcfpcgpjppfkaaGreatDoor
open Go Go.Ev
set_option maxRecDepth 1000000
theorem r5 : runM E [] 20000 e5 = true := by kernel_rfl
theorem w5 : e5.wf = true := by kernel_rfl
theorem r15 : runM E [e14] 20000 e15 = true := by kernel_rfl
theorem w15 : e15.wf = true := by kernel_rfl
theorem r25 : runM E [e20] 20000 e25 = true := by kernel_rfl
theorem w25 : e25.wf = true := by kernel_rfl
theorem r35 : runM E [e34, e31] 20000 e35 = true := by kernel_rfl
theorem w35 : e35.wf = true := by kernel_rfl
theorem r45 : runM E [e44] 20000 e45 = true := by kernel_rfl
theorem w45 : e45.wf = true := by kernel_rfl
theorem r55 : runM E [e54] 20000 e55 = true := by kernel_rfl
theorem w55 : e55.wf = true := by kernel_rfl
theorem r65 : runM E [e64] 20000 e65 = true := by kernel_rfl
theorem w65 : e65.wf = true := by kernel_rfl
theorem r75 : runM E [] 20000 e75 = true := by kernel_rfl
theorem w75 : e75.wf = true := by kernel_rfl
end Go.Proofs.YtmcfpcgpjppfkaaGreatDoor
