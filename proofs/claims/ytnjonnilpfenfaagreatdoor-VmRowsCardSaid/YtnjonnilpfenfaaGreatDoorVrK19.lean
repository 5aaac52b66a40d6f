/- The certificates hold. -/
import Derived.Test.YtnjonnilpfenfaaGreatDoorVrT
import Derived.KernelRfl
open Go.Ab
set_option maxRecDepth 100000
namespace Go.Proofs.YtnjonnilpfenfaaGreatDoor.VmRows
theorem k21_15 : fitAll tab0 21 g21_15 = true := by kernel_rfl
theorem k21_36 : fitAll tab0 21 g21_36 = true := by kernel_rfl
theorem k27_17 : fitAllN tab0 27 g27_17 = true := by kernel_rfl
theorem k27_39 : fitAllN tab0 27 g27_39 = true := by kernel_rfl
theorem k27_63 : fitAllN tab0 27 g27_63 = true := by kernel_rfl
theorem k27_87 : fitAllN tab0 27 g27_87 = true := by kernel_rfl
theorem k27_111 : fitAllN tab0 27 g27_111 = true := by kernel_rfl
theorem k27_135 : fitAllN tab0 27 g27_135 = true := by kernel_rfl
theorem k27_159 : fitAllN tab0 27 g27_159 = true := by kernel_rfl
theorem k27_183 : fitAllN tab0 27 g27_183 = true := by kernel_rfl
theorem k27_207 : fitAllN tab0 27 g27_207 = true := by kernel_rfl
theorem k27_231 : fitAllN tab0 27 g27_231 = true := by kernel_rfl
theorem k27_255 : fitAllN tab0 27 g27_255 = true := by kernel_rfl
theorem k27_279 : fitAllN tab0 27 g27_279 = true := by kernel_rfl
theorem k17_15 : fitAll tab0 17 g17_15 = true := by kernel_rfl
theorem k16_1 : fitAll tab0 16 g16_1 = true := by kernel_rfl
theorem k16_5 : fitAll tab0 16 g16_5 = true := by kernel_rfl
theorem k29_21 : fitAll tab0 29 g29_21 = true := by kernel_rfl
end Go.Proofs.YtnjonnilpfenfaaGreatDoor.VmRows
