/- The evaluator's word on some of the written calls of awake, by the kernel. Conditions: none. -/
import Derived.Test.YtmcfpcgpjppfkaaGreatDoorL
namespace Go.Proofs.YtmcfpcgpjppfkaaGreatDoor
open Go Go.Ev
set_option maxRecDepth 1000000
theorem r2 : runM E [e1] 20000 e2 = true := by kernel_rfl
theorem w2 : e2.wf = true := by kernel_rfl
theorem r12 : runM E [e0] 20000 e12 = true := by kernel_rfl
theorem w12 : e12.wf = true := by kernel_rfl
theorem r22 : runM E [e20] 20000 e22 = true := by kernel_rfl
theorem w22 : e22.wf = true := by kernel_rfl
theorem r32 : runM E [e31] 20000 e32 = true := by kernel_rfl
theorem w32 : e32.wf = true := by kernel_rfl
theorem r42 : runM E [e41] 20000 e42 = true := by kernel_rfl
theorem w42 : e42.wf = true := by kernel_rfl
theorem r52 : runM E [e51] 20000 e52 = true := by kernel_rfl
theorem w52 : e52.wf = true := by kernel_rfl
theorem r62 : runM E [e61] 20000 e62 = true := by kernel_rfl
theorem w62 : e62.wf = true := by kernel_rfl
theorem r72 : runM E [e71] 20000 e72 = true := by kernel_rfl
theorem w72 : e72.wf = true := by kernel_rfl
end Go.Proofs.YtmcfpcgpjppfkaaGreatDoor
