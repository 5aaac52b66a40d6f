/- The certificates hold. -/
import Derived.Test.YtnjonnilpfenfaaGreatDoorVsT
import Derived.KernelRfl
open Go.Ab
set_option maxRecDepth 100000
namespace Go.Proofs.YtnjonnilpfenfaaGreatDoor.VmSteps
theorem k21_1 : fitAll tab0 21 g21_1 = true := by kernel_rfl
theorem k27_5 : fitAllN tab0 27 g27_5 = true := by kernel_rfl
theorem k25_0 : fitAll tab0 25 g25_0 = true := by kernel_rfl
end Go.Proofs.YtnjonnilpfenfaaGreatDoor.VmSteps
