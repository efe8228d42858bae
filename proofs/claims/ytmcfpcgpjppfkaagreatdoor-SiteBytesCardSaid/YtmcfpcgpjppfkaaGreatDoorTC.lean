/- The tie of the listed variables to the program's text: the door's run. Conditions: none. -/
import Derived.Test.YtmcfpcgpjppfkaaGreatDoorRows
import Derived.Test.YtmcfpcgpjppfkaaGreatDoorTA
import Derived.LaidOnce
import Derived.KernelRfl
namespace Go.Proofs.YtmcfpcgpjppfkaaGreatDoor
open Go
set_option maxRecDepth 100000
theorem tie_run : ∀ os tape, doorLeaves Tryz.prog 400 8 1000 tieLaid os tape = some (tieLaid.filter fun x => x.2.handleName?.isNone, (funcsListed tieLaid).map (·.2.funcsOut)) := fun _ _ => by kernel_rfl
end Go.Proofs.YtmcfpcgpjppfkaaGreatDoor
