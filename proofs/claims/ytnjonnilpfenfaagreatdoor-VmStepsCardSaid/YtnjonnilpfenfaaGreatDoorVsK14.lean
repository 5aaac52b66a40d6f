/- The certificates hold. -/
import Derived.Test.YtnjonnilpfenfaaGreatDoorVsT
import Derived.KernelRfl
open Go.Ab
set_option maxRecDepth 100000
namespace Go.Proofs.YtnjonnilpfenfaaGreatDoor.VmSteps
theorem k27_0 : fitAllN tab0 27 g27_0 = true := by kernel_rfl
theorem k27_2 : fitAllN tab0 27 g27_2 = true := by kernel_rfl
theorem k53_0 : fitAll tabZ 53 g53_0 = true := by kernel_rfl
end Go.Proofs.YtnjonnilpfenfaaGreatDoor.VmSteps
