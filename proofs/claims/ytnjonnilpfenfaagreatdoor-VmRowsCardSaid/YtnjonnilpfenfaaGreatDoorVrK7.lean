/- The certificates hold. -/
import Derived.Test.YtnjonnilpfenfaaGreatDoorVrT
import Derived.KernelRfl
open Go.Ab
set_option maxRecDepth 100000
namespace Go.Proofs.YtnjonnilpfenfaaGreatDoor.VmRows
theorem k21_3 : fitAll tab0 21 g21_3 = true := by kernel_rfl
theorem k21_24 : fitAll tab0 21 g21_24 = true := by kernel_rfl
theorem k27_5 : fitAllN tab0 27 g27_5 = true := by kernel_rfl
theorem k27_27 : fitAllN tab0 27 g27_27 = true := by kernel_rfl
theorem k27_51 : fitAllN tab0 27 g27_51 = true := by kernel_rfl
theorem k27_75 : fitAllN tab0 27 g27_75 = true := by kernel_rfl
theorem k27_99 : fitAllN tab0 27 g27_99 = true := by kernel_rfl
theorem k27_123 : fitAllN tab0 27 g27_123 = true := by kernel_rfl
theorem k27_147 : fitAllN tab0 27 g27_147 = true := by kernel_rfl
theorem k27_171 : fitAllN tab0 27 g27_171 = true := by kernel_rfl
theorem k27_195 : fitAllN tab0 27 g27_195 = true := by kernel_rfl
theorem k27_219 : fitAllN tab0 27 g27_219 = true := by kernel_rfl
theorem k27_243 : fitAllN tab0 27 g27_243 = true := by kernel_rfl
theorem k27_267 : fitAllN tab0 27 g27_267 = true := by kernel_rfl
theorem k17_3 : fitAll tab0 17 g17_3 = true := by kernel_rfl
theorem k18_11 : fitAll tab0 18 g18_11 = true := by kernel_rfl
theorem k16_17 : fitAll tab0 16 g16_17 = true := by kernel_rfl
theorem k29_33 : fitAll tab0 29 g29_33 = true := by kernel_rfl
end Go.Proofs.YtnjonnilpfenfaaGreatDoor.VmRows
