/- The evaluator's word on some of the written calls of awake, by the kernel. Conditions: none. -/
import Derived.Test.YtmcfpcgpjppfkaaGreatDoorL
namespace Go.Proofs.YtmcfpcgpjppfkaaGreatDoor
open Go Go.Ev
set_option maxRecDepth 1000000
theorem r0 : runM E [] 20000 e0 = true := by kernel_rfl
theorem w0 : e0.wf = true := by kernel_rfl
theorem r10 : runM E [e0] 20000 e10 = true := by kernel_rfl
theorem w10 : e10.wf = true := by kernel_rfl
theorem r20 : runM E [e19, e17, e15, e13, e11, e9, e7, e5] 20000 e20 = true := by kernel_rfl
theorem w20 : e20.wf = true := by kernel_rfl
theorem r30 : runM E [e14] 20000 e30 = true := by kernel_rfl
theorem w30 : e30.wf = true := by kernel_rfl
theorem r40 : runM E [e39, e37] 20000 e40 = true := by kernel_rfl
theorem w40 : e40.wf = true := by kernel_rfl
theorem r50 : runM E [e49, e47, e45] 20000 e50 = true := by kernel_rfl
theorem w50 : e50.wf = true := by kernel_rfl
theorem r60 : runM E [e59, e57, e55] 20000 e60 = true := by kernel_rfl
theorem w60 : e60.wf = true := by kernel_rfl
theorem r70 : runM E [e69, e67, e65] 20000 e70 = true := by kernel_rfl
theorem w70 : e70.wf = true := by kernel_rfl
end Go.Proofs.YtmcfpcgpjppfkaaGreatDoor
