/- The certificates hold. -/
import Derived.Test.YtnjonnilpfenfaaGreatDoorVsT
import Derived.KernelRfl
open Go.Ab
set_option maxRecDepth 100000
namespace Go.Proofs.YtnjonnilpfenfaaGreatDoor.VmSteps
theorem k21_2 : fitAll tab0 21 g21_2 = true := by kernel_rfl
theorem k27_6 : fitAllN tab0 27 g27_6 = true := by kernel_rfl
theorem k18_0 : fitAll tab0 18 g18_0 = true := by kernel_rfl
theorem k22_0 : fitAll tab0 22 g22_0 = true := by kernel_rfl
end Go.Proofs.YtnjonnilpfenfaaGreatDoor.VmSteps
