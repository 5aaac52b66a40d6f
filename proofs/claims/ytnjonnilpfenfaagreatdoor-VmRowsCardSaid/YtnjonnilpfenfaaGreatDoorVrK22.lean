/- The certificates hold. -/
import Derived.Test.YtnjonnilpfenfaaGreatDoorVrT
import Derived.KernelRfl
open Go.Ab
set_option maxRecDepth 100000
namespace Go.Proofs.YtnjonnilpfenfaaGreatDoor.VmRows
theorem k21_18 : fitAll tab0 21 g21_18 = true := by kernel_rfl
theorem k25_1 : fitAll tab0 25 g25_1 = true := by kernel_rfl
theorem k27_20 : fitAllN tab0 27 g27_20 = true := by kernel_rfl
theorem k27_42 : fitAllN tab0 27 g27_42 = true := by kernel_rfl
theorem k27_66 : fitAllN tab0 27 g27_66 = true := by kernel_rfl
theorem k27_90 : fitAllN tab0 27 g27_90 = true := by kernel_rfl
theorem k27_114 : fitAllN tab0 27 g27_114 = true := by kernel_rfl
theorem k27_138 : fitAllN tab0 27 g27_138 = true := by kernel_rfl
theorem k27_162 : fitAllN tab0 27 g27_162 = true := by kernel_rfl
theorem k27_186 : fitAllN tab0 27 g27_186 = true := by kernel_rfl
theorem k27_210 : fitAllN tab0 27 g27_210 = true := by kernel_rfl
theorem k27_234 : fitAllN tab0 27 g27_234 = true := by kernel_rfl
theorem k27_258 : fitAllN tab0 27 g27_258 = true := by kernel_rfl
theorem k27_282 : fitAllN tab0 27 g27_282 = true := by kernel_rfl
theorem k18_0 : fitAll tab0 18 g18_0 = true := by kernel_rfl
theorem k18_4 : fitAll tab0 18 g18_4 = true := by kernel_rfl
theorem k16_8 : fitAll tab0 16 g16_8 = true := by kernel_rfl
theorem k29_24 : fitAll tab0 29 g29_24 = true := by kernel_rfl
end Go.Proofs.YtnjonnilpfenfaaGreatDoor.VmRows
