/- The certificates hold. -/
import Derived.Test.YtnjonnilpfenfaaGreatDoorVrT
import Derived.KernelRfl
open Go.Ab
set_option maxRecDepth 100000
namespace Go.Proofs.YtnjonnilpfenfaaGreatDoor.VmRows
theorem k21_7 : fitAll tab0 21 g21_7 = true := by kernel_rfl
theorem k21_28 : fitAll tab0 21 g21_28 = true := by kernel_rfl
theorem k27_9 : fitAllN tab0 27 g27_9 = true := by kernel_rfl
theorem k27_31 : fitAllN tab0 27 g27_31 = true := by kernel_rfl
theorem k27_55 : fitAllN tab0 27 g27_55 = true := by kernel_rfl
theorem k27_79 : fitAllN tab0 27 g27_79 = true := by kernel_rfl
theorem k27_103 : fitAllN tab0 27 g27_103 = true := by kernel_rfl
theorem k27_127 : fitAllN tab0 27 g27_127 = true := by kernel_rfl
theorem k27_151 : fitAllN tab0 27 g27_151 = true := by kernel_rfl
theorem k27_175 : fitAllN tab0 27 g27_175 = true := by kernel_rfl
theorem k27_199 : fitAllN tab0 27 g27_199 = true := by kernel_rfl
theorem k27_223 : fitAllN tab0 27 g27_223 = true := by kernel_rfl
theorem k27_247 : fitAllN tab0 27 g27_247 = true := by kernel_rfl
theorem k27_271 : fitAllN tab0 27 g27_271 = true := by kernel_rfl
theorem k17_7 : fitAll tab0 17 g17_7 = true := by kernel_rfl
theorem k18_15 : fitAll tab0 18 g18_15 = true := by kernel_rfl
theorem k29_3 : fitAll tab0 29 g29_3 = true := by kernel_rfl
theorem k29_13 : fitAll tab0 29 g29_13 = true := by kernel_rfl
theorem k22_1 : fitAll tab0 22 g22_1 = true := by kernel_rfl
end Go.Proofs.YtnjonnilpfenfaaGreatDoor.VmRows
