/- The certificates hold. -/
import Derived.Test.YtnjonnilpfenfaaGreatDoorVrT
import Derived.KernelRfl
open Go.Ab
set_option maxRecDepth 100000
namespace Go.Proofs.YtnjonnilpfenfaaGreatDoor.VmRows
theorem k24_0 : fitAll tab0 24 g24_0 = true := by kernel_rfl
theorem k25_3 : fitAll tab0 25 g25_3 = true := by kernel_rfl
theorem k27_45 : fitAllN tab0 27 g27_45 = true := by kernel_rfl
theorem k27_69 : fitAllN tab0 27 g27_69 = true := by kernel_rfl
theorem k27_93 : fitAllN tab0 27 g27_93 = true := by kernel_rfl
theorem k27_117 : fitAllN tab0 27 g27_117 = true := by kernel_rfl
theorem k27_141 : fitAllN tab0 27 g27_141 = true := by kernel_rfl
theorem k27_165 : fitAllN tab0 27 g27_165 = true := by kernel_rfl
theorem k27_189 : fitAllN tab0 27 g27_189 = true := by kernel_rfl
theorem k27_213 : fitAllN tab0 27 g27_213 = true := by kernel_rfl
theorem k27_237 : fitAllN tab0 27 g27_237 = true := by kernel_rfl
theorem k27_261 : fitAllN tab0 27 g27_261 = true := by kernel_rfl
theorem k27_285 : fitAllN tab0 27 g27_285 = true := by kernel_rfl
theorem k18_3 : fitAll tab0 18 g18_3 = true := by kernel_rfl
theorem k18_7 : fitAll tab0 18 g18_7 = true := by kernel_rfl
theorem k16_11 : fitAll tab0 16 g16_11 = true := by kernel_rfl
theorem k29_27 : fitAll tab0 29 g29_27 = true := by kernel_rfl
end Go.Proofs.YtnjonnilpfenfaaGreatDoor.VmRows
