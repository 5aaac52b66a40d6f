/- The certificates hold. -/
import Derived.Test.YtnjonnilpfenfaaGreatDoorVsT
import Derived.KernelRfl
open Go.Ab
set_option maxRecDepth 100000
namespace Go.Proofs.YtnjonnilpfenfaaGreatDoor.VmSteps
theorem k27_1 : fitAllN tab0 27 g27_1 = true := by kernel_rfl
theorem k27_3 : fitAllN tab0 27 g27_3 = true := by kernel_rfl
theorem k53_1 : fitAll tabZ 53 g53_1 = true := by kernel_rfl
end Go.Proofs.YtnjonnilpfenfaaGreatDoor.VmSteps
