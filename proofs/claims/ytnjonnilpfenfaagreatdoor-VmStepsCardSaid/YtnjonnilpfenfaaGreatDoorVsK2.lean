/- The certificates hold. -/
import Derived.Test.YtnjonnilpfenfaaGreatDoorVsT
import Derived.KernelRfl
open Go.Ab
set_option maxRecDepth 100000
namespace Go.Proofs.YtnjonnilpfenfaaGreatDoor.VmSteps
theorem k8_0 : fitAll tab0 8 g8_0 = true := by kernel_rfl
theorem k27_15 : fitAllN tab0 27 g27_15 = true := by kernel_rfl
theorem k16_0 : fitAll tab0 16 g16_0 = true := by kernel_rfl
theorem k19_0 : fitAll tab0 19 g19_0 = true := by kernel_rfl
end Go.Proofs.YtnjonnilpfenfaaGreatDoor.VmSteps
