/- The evaluator's word on some of the written calls of awake, by the kernel. Conditions: none. -/
import Derived.Test.YtmcfpcgpjppfkaaGreatDoorL
namespace Go.Proofs.YtmcfpcgpjppfkaaGreatDoor
open Go Go.Ev
set_option maxRecDepth 1000000
theorem r3 : runM E [e2] 20000 e3 = true := by kernel_rfl
theorem w3 : e3.wf = true := by kernel_rfl
theorem r13 : runM E [e12] 20000 e13 = true := by kernel_rfl
theorem w13 : e13.wf = true := by kernel_rfl
theorem r23 : runM E [e20] 20000 e23 = true := by kernel_rfl
theorem w23 : e23.wf = true := by kernel_rfl
theorem r33 : runM E [e32, e27, e21] 20000 e33 = true := by kernel_rfl
theorem w33 : e33.wf = true := by kernel_rfl
theorem r43 : runM E [e42] 20000 e43 = true := by kernel_rfl
theorem w43 : e43.wf = true := by kernel_rfl
theorem r53 : runM E [e52] 20000 e53 = true := by kernel_rfl
theorem w53 : e53.wf = true := by kernel_rfl
theorem r63 : runM E [e62] 20000 e63 = true := by kernel_rfl
theorem w63 : e63.wf = true := by kernel_rfl
theorem r73 : runM E [e71] 20000 e73 = true := by kernel_rfl
theorem w73 : e73.wf = true := by kernel_rfl
end Go.Proofs.YtmcfpcgpjppfkaaGreatDoor
