/- The certificates hold. -/
import Derived.Test.YtnjonnilpfenfaaGreatDoorVsT
import Derived.KernelRfl
open Go.Ab
set_option maxRecDepth 100000
namespace Go.Proofs.YtnjonnilpfenfaaGreatDoor.VmSteps
theorem k21_6 : fitAll tab0 21 g21_6 = true := by kernel_rfl
theorem k27_10 : fitAllN tab0 27 g27_10 = true := by kernel_rfl
theorem k29_3 : fitAll tab0 29 g29_3 = true := by kernel_rfl
end Go.Proofs.YtnjonnilpfenfaaGreatDoor.VmSteps
