/- The certificates hold. -/
import Derived.Test.YtnjonnilpfenfaaGreatDoorVsT
import Derived.KernelRfl
open Go.Ab
set_option maxRecDepth 100000
namespace Go.Proofs.YtnjonnilpfenfaaGreatDoor.VmSteps
theorem k21_0 : fitAll tab0 21 g21_0 = true := by kernel_rfl
theorem k27_4 : fitAllN tab0 27 g27_4 = true := by kernel_rfl
theorem k21_11 : fitAll tab0 21 g21_11 = true := by kernel_rfl
end Go.Proofs.YtnjonnilpfenfaaGreatDoor.VmSteps
