/- The certificates hold. -/
import Derived.Test.YtnjonnilpfenfaaGreatDoorVsT
import Derived.KernelRfl
open Go.Ab
set_option maxRecDepth 100000
namespace Go.Proofs.YtnjonnilpfenfaaGreatDoor.VmSteps
theorem k21_10 : fitAll tab0 21 g21_10 = true := by kernel_rfl
theorem k27_14 : fitAllN tab0 27 g27_14 = true := by kernel_rfl
theorem k29_7 : fitAll tab0 29 g29_7 = true := by kernel_rfl
end Go.Proofs.YtnjonnilpfenfaaGreatDoor.VmSteps
