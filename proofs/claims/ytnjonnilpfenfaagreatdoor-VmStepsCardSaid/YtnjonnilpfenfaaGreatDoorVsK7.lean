/- The certificates hold. -/
import Derived.Test.YtnjonnilpfenfaaGreatDoorVsT
import Derived.KernelRfl
open Go.Ab
set_option maxRecDepth 100000
namespace Go.Proofs.YtnjonnilpfenfaaGreatDoor.VmSteps
theorem k21_4 : fitAll tab0 21 g21_4 = true := by kernel_rfl
theorem k27_8 : fitAllN tab0 27 g27_8 = true := by kernel_rfl
theorem k29_1 : fitAll tab0 29 g29_1 = true := by kernel_rfl
theorem k118_0 : fitsN c118_0 (evFN Tryz.prog [] sp0 1000 118 c118_0.args c118_0.start) = true := by kernel_rfl
end Go.Proofs.YtnjonnilpfenfaaGreatDoor.VmSteps
