/- The certificates hold. -/
import Derived.Test.YtnjonnilpfenfaaGreatDoorVrT
import Derived.KernelRfl
open Go.Ab
set_option maxRecDepth 100000
namespace Go.Proofs.YtnjonnilpfenfaaGreatDoor.VmRows
theorem k21_17 : fitAll tab0 21 g21_17 = true := by kernel_rfl
theorem k25_0 : fitAll tab0 25 g25_0 = true := by kernel_rfl
theorem k27_19 : fitAllN tab0 27 g27_19 = true := by kernel_rfl
theorem k27_41 : fitAllN tab0 27 g27_41 = true := by kernel_rfl
theorem k27_65 : fitAllN tab0 27 g27_65 = true := by kernel_rfl
theorem k27_89 : fitAllN tab0 27 g27_89 = true := by kernel_rfl
theorem k27_113 : fitAllN tab0 27 g27_113 = true := by kernel_rfl
theorem k27_137 : fitAllN tab0 27 g27_137 = true := by kernel_rfl
theorem k27_161 : fitAllN tab0 27 g27_161 = true := by kernel_rfl
theorem k27_185 : fitAllN tab0 27 g27_185 = true := by kernel_rfl
theorem k27_209 : fitAllN tab0 27 g27_209 = true := by kernel_rfl
theorem k27_233 : fitAllN tab0 27 g27_233 = true := by kernel_rfl
theorem k27_257 : fitAllN tab0 27 g27_257 = true := by kernel_rfl
theorem k27_281 : fitAllN tab0 27 g27_281 = true := by kernel_rfl
theorem k17_17 : fitAll tab0 17 g17_17 = true := by kernel_rfl
theorem k16_3 : fitAll tab0 16 g16_3 = true := by kernel_rfl
theorem k16_7 : fitAll tab0 16 g16_7 = true := by kernel_rfl
theorem k29_23 : fitAll tab0 29 g29_23 = true := by kernel_rfl
end Go.Proofs.YtnjonnilpfenfaaGreatDoor.VmRows
