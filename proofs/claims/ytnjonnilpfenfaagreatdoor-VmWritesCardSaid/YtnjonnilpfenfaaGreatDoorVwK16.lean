/- The certificates hold. -/
import Derived.Test.YtnjonnilpfenfaaGreatDoorVwU
import Derived.KernelRfl
open Go.Ab
set_option maxRecDepth 100000
namespace Go.Proofs.YtnjonnilpfenfaaGreatDoor.VmWrites
theorem k16_0 : fitsR c16_0 (run tabX 300 16 c16_0.args c16_0.start) = true := by kernel_rfl
end Go.Proofs.YtnjonnilpfenfaaGreatDoor.VmWrites
