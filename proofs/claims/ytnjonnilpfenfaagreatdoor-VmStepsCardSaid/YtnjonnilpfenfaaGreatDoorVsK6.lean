/- The certificates hold. -/
import Derived.Test.YtnjonnilpfenfaaGreatDoorVsT
import Derived.KernelRfl
open Go.Ab
set_option maxRecDepth 100000
namespace Go.Proofs.YtnjonnilpfenfaaGreatDoor.VmSteps
theorem k21_3 : fitAll tab0 21 g21_3 = true := by kernel_rfl
theorem k27_7 : fitAllN tab0 27 g27_7 = true := by kernel_rfl
theorem k29_0 : fitAll tab0 29 g29_0 = true := by kernel_rfl
theorem k28_0 : fitAll tab0 28 g28_0 = true := by kernel_rfl
end Go.Proofs.YtnjonnilpfenfaaGreatDoor.VmSteps
