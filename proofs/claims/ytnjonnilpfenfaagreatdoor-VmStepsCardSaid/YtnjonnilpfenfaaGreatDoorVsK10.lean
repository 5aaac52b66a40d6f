/- The certificates hold. -/
import Derived.Test.YtnjonnilpfenfaaGreatDoorVsT
import Derived.KernelRfl
open Go.Ab
set_option maxRecDepth 100000
namespace Go.Proofs.YtnjonnilpfenfaaGreatDoor.VmSteps
theorem k21_7 : fitAll tab0 21 g21_7 = true := by kernel_rfl
theorem k27_11 : fitAllN tab0 27 g27_11 = true := by kernel_rfl
theorem k29_4 : fitAll tab0 29 g29_4 = true := by kernel_rfl
end Go.Proofs.YtnjonnilpfenfaaGreatDoor.VmSteps
