/- The tie of the listed variables to the program's text: the names. Conditions: none. -/
import Derived.Test.YtmcfpcgpjppfkaaGreatDoorRows
import Derived.Test.YtmcfpcgpjppfkaaGreatDoorTA
import Derived.LaidOnce
import Derived.KernelRfl
namespace Go.Proofs.YtmcfpcgpjppfkaaGreatDoor
open Go
set_option maxRecDepth 100000
theorem tie_n : varsNamedLaterB Tryz.prog (varsId Tryz.prog) tieLaid = true := by kernel_rfl
end Go.Proofs.YtmcfpcgpjppfkaaGreatDoor
