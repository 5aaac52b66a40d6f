/- The certificates hold. -/
import Derived.Test.YtnjonnilpfenfaaGreatDoorVrT
import Derived.KernelRfl
open Go.Ab
set_option maxRecDepth 100000
namespace Go.Proofs.YtnjonnilpfenfaaGreatDoor.VmRows
theorem k21_1 : fitAll tab0 21 g21_1 = true := by kernel_rfl
theorem k21_22 : fitAll tab0 21 g21_22 = true := by kernel_rfl
theorem k27_3 : fitAllN tab0 27 g27_3 = true := by kernel_rfl
theorem k27_25 : fitAllN tab0 27 g27_25 = true := by kernel_rfl
theorem k27_49 : fitAllN tab0 27 g27_49 = true := by kernel_rfl
theorem k27_73 : fitAllN tab0 27 g27_73 = true := by kernel_rfl
theorem k27_97 : fitAllN tab0 27 g27_97 = true := by kernel_rfl
theorem k27_121 : fitAllN tab0 27 g27_121 = true := by kernel_rfl
theorem k27_145 : fitAllN tab0 27 g27_145 = true := by kernel_rfl
theorem k27_169 : fitAllN tab0 27 g27_169 = true := by kernel_rfl
theorem k27_193 : fitAllN tab0 27 g27_193 = true := by kernel_rfl
theorem k27_217 : fitAllN tab0 27 g27_217 = true := by kernel_rfl
theorem k27_241 : fitAllN tab0 27 g27_241 = true := by kernel_rfl
theorem k27_265 : fitAllN tab0 27 g27_265 = true := by kernel_rfl
theorem k17_1 : fitAll tab0 17 g17_1 = true := by kernel_rfl
theorem k18_9 : fitAll tab0 18 g18_9 = true := by kernel_rfl
theorem k16_15 : fitAll tab0 16 g16_15 = true := by kernel_rfl
theorem k29_31 : fitAll tab0 29 g29_31 = true := by kernel_rfl
end Go.Proofs.YtnjonnilpfenfaaGreatDoor.VmRows
