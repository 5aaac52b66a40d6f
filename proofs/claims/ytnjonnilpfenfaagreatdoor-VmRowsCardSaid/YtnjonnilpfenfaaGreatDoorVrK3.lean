/- The certificates hold. -/
import Derived.Test.YtnjonnilpfenfaaGreatDoorVrT
import Derived.KernelRfl
open Go.Ab
set_option maxRecDepth 100000
namespace Go.Proofs.YtnjonnilpfenfaaGreatDoor.VmRows
theorem k8_0 : fitAll tab0 8 g8_0 = true := by kernel_rfl
theorem k21_20 : fitAll tab0 21 g21_20 = true := by kernel_rfl
theorem k27_1 : fitAllN tab0 27 g27_1 = true := by kernel_rfl
theorem k27_23 : fitAllN tab0 27 g27_23 = true := by kernel_rfl
theorem k27_47 : fitAllN tab0 27 g27_47 = true := by kernel_rfl
theorem k27_71 : fitAllN tab0 27 g27_71 = true := by kernel_rfl
theorem k27_95 : fitAllN tab0 27 g27_95 = true := by kernel_rfl
theorem k27_119 : fitAllN tab0 27 g27_119 = true := by kernel_rfl
theorem k27_143 : fitAllN tab0 27 g27_143 = true := by kernel_rfl
theorem k27_167 : fitAllN tab0 27 g27_167 = true := by kernel_rfl
theorem k27_191 : fitAllN tab0 27 g27_191 = true := by kernel_rfl
theorem k27_215 : fitAllN tab0 27 g27_215 = true := by kernel_rfl
theorem k27_239 : fitAllN tab0 27 g27_239 = true := by kernel_rfl
theorem k27_263 : fitAllN tab0 27 g27_263 = true := by kernel_rfl
theorem k27_287 : fitAllN tab0 27 g27_287 = true := by kernel_rfl
theorem k16_13 : fitAll tab0 16 g16_13 = true := by kernel_rfl
theorem k29_29 : fitAll tab0 29 g29_29 = true := by kernel_rfl
end Go.Proofs.YtnjonnilpfenfaaGreatDoor.VmRows
