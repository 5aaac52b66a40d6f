/- The certificates hold. -/
import Derived.Test.YtnjonnilpfenfaaGreatDoorVrT
import Derived.KernelRfl
open Go.Ab
set_option maxRecDepth 100000
namespace Go.Proofs.YtnjonnilpfenfaaGreatDoor.VmRows
theorem k21_5 : fitAll tab0 21 g21_5 = true := by kernel_rfl
theorem k21_26 : fitAll tab0 21 g21_26 = true := by kernel_rfl
theorem k27_7 : fitAllN tab0 27 g27_7 = true := by kernel_rfl
theorem k27_29 : fitAllN tab0 27 g27_29 = true := by kernel_rfl
theorem k27_53 : fitAllN tab0 27 g27_53 = true := by kernel_rfl
theorem k27_77 : fitAllN tab0 27 g27_77 = true := by kernel_rfl
theorem k27_101 : fitAllN tab0 27 g27_101 = true := by kernel_rfl
theorem k27_125 : fitAllN tab0 27 g27_125 = true := by kernel_rfl
theorem k27_149 : fitAllN tab0 27 g27_149 = true := by kernel_rfl
theorem k27_173 : fitAllN tab0 27 g27_173 = true := by kernel_rfl
theorem k27_197 : fitAllN tab0 27 g27_197 = true := by kernel_rfl
theorem k27_221 : fitAllN tab0 27 g27_221 = true := by kernel_rfl
theorem k27_245 : fitAllN tab0 27 g27_245 = true := by kernel_rfl
theorem k27_269 : fitAllN tab0 27 g27_269 = true := by kernel_rfl
theorem k17_5 : fitAll tab0 17 g17_5 = true := by kernel_rfl
theorem k18_13 : fitAll tab0 18 g18_13 = true := by kernel_rfl
theorem k29_1 : fitAll tab0 29 g29_1 = true := by kernel_rfl
theorem k29_11 : fitAll tab0 29 g29_11 = true := by kernel_rfl
theorem k29_35 : fitAll tab0 29 g29_35 = true := by kernel_rfl
end Go.Proofs.YtnjonnilpfenfaaGreatDoor.VmRows
