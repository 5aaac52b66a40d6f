/- The certificates hold. -/
import Derived.Test.YtnjonnilpfenfaaGreatDoorVrT
import Derived.KernelRfl
open Go.Ab
set_option maxRecDepth 100000
namespace Go.Proofs.YtnjonnilpfenfaaGreatDoor.VmRows
theorem k21_6 : fitAll tab0 21 g21_6 = true := by kernel_rfl
theorem k21_27 : fitAll tab0 21 g21_27 = true := by kernel_rfl
theorem k27_8 : fitAllN tab0 27 g27_8 = true := by kernel_rfl
theorem k27_30 : fitAllN tab0 27 g27_30 = true := by kernel_rfl
theorem k27_54 : fitAllN tab0 27 g27_54 = true := by kernel_rfl
theorem k27_78 : fitAllN tab0 27 g27_78 = true := by kernel_rfl
theorem k27_102 : fitAllN tab0 27 g27_102 = true := by kernel_rfl
theorem k27_126 : fitAllN tab0 27 g27_126 = true := by kernel_rfl
theorem k27_150 : fitAllN tab0 27 g27_150 = true := by kernel_rfl
theorem k27_174 : fitAllN tab0 27 g27_174 = true := by kernel_rfl
theorem k27_198 : fitAllN tab0 27 g27_198 = true := by kernel_rfl
theorem k27_222 : fitAllN tab0 27 g27_222 = true := by kernel_rfl
theorem k27_246 : fitAllN tab0 27 g27_246 = true := by kernel_rfl
theorem k27_270 : fitAllN tab0 27 g27_270 = true := by kernel_rfl
theorem k17_6 : fitAll tab0 17 g17_6 = true := by kernel_rfl
theorem k18_14 : fitAll tab0 18 g18_14 = true := by kernel_rfl
theorem k29_2 : fitAll tab0 29 g29_2 = true := by kernel_rfl
theorem k29_12 : fitAll tab0 29 g29_12 = true := by kernel_rfl
theorem k22_0 : fitAll tab0 22 g22_0 = true := by kernel_rfl
end Go.Proofs.YtnjonnilpfenfaaGreatDoor.VmRows
