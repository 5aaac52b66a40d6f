/- The certificates hold. -/
import Derived.Test.YtnjonnilpfenfaaGreatDoorVrU
import Derived.KernelRfl
open Go.Ab
set_option maxRecDepth 100000
namespace Go.Proofs.YtnjonnilpfenfaaGreatDoor.VmRows
theorem k24_1 : fitAll tabX 24 g24_1 = true := by kernel_rfl
end Go.Proofs.YtnjonnilpfenfaaGreatDoor.VmRows
