/- The certificates hold. -/
import Derived.Test.YtnjonnilpfenfaaGreatDoorVrT
import Derived.KernelRfl
open Go.Ab
set_option maxRecDepth 100000
namespace Go.Proofs.YtnjonnilpfenfaaGreatDoor.VmRows
theorem k27_0 : fitAllN tab0 27 g27_0 = true := by kernel_rfl
theorem k27_22 : fitAllN tab0 27 g27_22 = true := by kernel_rfl
theorem k27_46 : fitAllN tab0 27 g27_46 = true := by kernel_rfl
theorem k27_70 : fitAllN tab0 27 g27_70 = true := by kernel_rfl
theorem k27_94 : fitAllN tab0 27 g27_94 = true := by kernel_rfl
theorem k27_118 : fitAllN tab0 27 g27_118 = true := by kernel_rfl
theorem k27_142 : fitAllN tab0 27 g27_142 = true := by kernel_rfl
theorem k27_166 : fitAllN tab0 27 g27_166 = true := by kernel_rfl
theorem k27_190 : fitAllN tab0 27 g27_190 = true := by kernel_rfl
theorem k27_214 : fitAllN tab0 27 g27_214 = true := by kernel_rfl
theorem k27_238 : fitAllN tab0 27 g27_238 = true := by kernel_rfl
theorem k27_262 : fitAllN tab0 27 g27_262 = true := by kernel_rfl
theorem k27_286 : fitAllN tab0 27 g27_286 = true := by kernel_rfl
theorem k16_12 : fitAll tab0 16 g16_12 = true := by kernel_rfl
theorem k29_28 : fitAll tab0 29 g29_28 = true := by kernel_rfl
end Go.Proofs.YtnjonnilpfenfaaGreatDoor.VmRows
