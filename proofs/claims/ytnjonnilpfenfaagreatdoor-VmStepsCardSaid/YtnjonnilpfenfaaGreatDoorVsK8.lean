/- The certificates hold. -/
import Derived.Test.YtnjonnilpfenfaaGreatDoorVsT
import Derived.KernelRfl
open Go.Ab
set_option maxRecDepth 100000
namespace Go.Proofs.YtnjonnilpfenfaaGreatDoor.VmSteps
theorem k21_5 : fitAll tab0 21 g21_5 = true := by kernel_rfl
theorem k27_9 : fitAllN tab0 27 g27_9 = true := by kernel_rfl
theorem k29_2 : fitAll tab0 29 g29_2 = true := by kernel_rfl
theorem k118_1 : fitsN c118_1 (evFN Tryz.prog [] sp0 1000 118 c118_1.args c118_1.start) = true := by kernel_rfl
end Go.Proofs.YtnjonnilpfenfaaGreatDoor.VmSteps
