/- The certificates hold. -/
import Derived.Test.YtnjonnilpfenfaaGreatDoorVrT
import Derived.KernelRfl
open Go.Ab
set_option maxRecDepth 100000
namespace Go.Proofs.YtnjonnilpfenfaaGreatDoor.VmRows
theorem k21_16 : fitAll tab0 21 g21_16 = true := by kernel_rfl
theorem k21_37 : fitAll tab0 21 g21_37 = true := by kernel_rfl
theorem k27_18 : fitAllN tab0 27 g27_18 = true := by kernel_rfl
theorem k27_40 : fitAllN tab0 27 g27_40 = true := by kernel_rfl
theorem k27_64 : fitAllN tab0 27 g27_64 = true := by kernel_rfl
theorem k27_88 : fitAllN tab0 27 g27_88 = true := by kernel_rfl
theorem k27_112 : fitAllN tab0 27 g27_112 = true := by kernel_rfl
theorem k27_136 : fitAllN tab0 27 g27_136 = true := by kernel_rfl
theorem k27_160 : fitAllN tab0 27 g27_160 = true := by kernel_rfl
theorem k27_184 : fitAllN tab0 27 g27_184 = true := by kernel_rfl
theorem k27_208 : fitAllN tab0 27 g27_208 = true := by kernel_rfl
theorem k27_232 : fitAllN tab0 27 g27_232 = true := by kernel_rfl
theorem k27_256 : fitAllN tab0 27 g27_256 = true := by kernel_rfl
theorem k27_280 : fitAllN tab0 27 g27_280 = true := by kernel_rfl
theorem k17_16 : fitAll tab0 17 g17_16 = true := by kernel_rfl
theorem k16_2 : fitAll tab0 16 g16_2 = true := by kernel_rfl
theorem k16_6 : fitAll tab0 16 g16_6 = true := by kernel_rfl
theorem k29_22 : fitAll tab0 29 g29_22 = true := by kernel_rfl
end Go.Proofs.YtnjonnilpfenfaaGreatDoor.VmRows
