/- The certificates hold. -/
import Derived.Test.YtnjonnilpfenfaaGreatDoorVsT
import Derived.KernelRfl
open Go.Ab
set_option maxRecDepth 100000
namespace Go.Proofs.YtnjonnilpfenfaaGreatDoor.VmSteps
theorem k21_9 : fitAll tab0 21 g21_9 = true := by kernel_rfl
theorem k27_13 : fitAllN tab0 27 g27_13 = true := by kernel_rfl
theorem k29_6 : fitAll tab0 29 g29_6 = true := by kernel_rfl
end Go.Proofs.YtnjonnilpfenfaaGreatDoor.VmSteps
