/- The certificates hold. -/
import Derived.Test.YtnjonnilpfenfaaGreatDoorVsT
import Derived.KernelRfl
open Go.Ab
set_option maxRecDepth 100000
namespace Go.Proofs.YtnjonnilpfenfaaGreatDoor.VmSteps
theorem k21_8 : fitAll tab0 21 g21_8 = true := by kernel_rfl
theorem k27_12 : fitAllN tab0 27 g27_12 = true := by kernel_rfl
theorem k29_5 : fitAll tab0 29 g29_5 = true := by kernel_rfl
end Go.Proofs.YtnjonnilpfenfaaGreatDoor.VmSteps
