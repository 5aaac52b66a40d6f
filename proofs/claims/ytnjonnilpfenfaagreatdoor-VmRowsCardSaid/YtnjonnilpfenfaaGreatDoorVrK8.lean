/- The certificates hold. -/
import Derived.Test.YtnjonnilpfenfaaGreatDoorVrT
import Derived.KernelRfl
open Go.Ab
set_option maxRecDepth 100000
namespace Go.Proofs.YtnjonnilpfenfaaGreatDoor.VmRows
theorem k21_4 : fitAll tab0 21 g21_4 = true := by kernel_rfl
theorem k21_25 : fitAll tab0 21 g21_25 = true := by kernel_rfl
theorem k27_6 : fitAllN tab0 27 g27_6 = true := by kernel_rfl
theorem k27_28 : fitAllN tab0 27 g27_28 = true := by kernel_rfl
theorem k27_52 : fitAllN tab0 27 g27_52 = true := by kernel_rfl
theorem k27_76 : fitAllN tab0 27 g27_76 = true := by kernel_rfl
theorem k27_100 : fitAllN tab0 27 g27_100 = true := by kernel_rfl
theorem k27_124 : fitAllN tab0 27 g27_124 = true := by kernel_rfl
theorem k27_148 : fitAllN tab0 27 g27_148 = true := by kernel_rfl
theorem k27_172 : fitAllN tab0 27 g27_172 = true := by kernel_rfl
theorem k27_196 : fitAllN tab0 27 g27_196 = true := by kernel_rfl
theorem k27_220 : fitAllN tab0 27 g27_220 = true := by kernel_rfl
theorem k27_244 : fitAllN tab0 27 g27_244 = true := by kernel_rfl
theorem k27_268 : fitAllN tab0 27 g27_268 = true := by kernel_rfl
theorem k17_4 : fitAll tab0 17 g17_4 = true := by kernel_rfl
theorem k18_12 : fitAll tab0 18 g18_12 = true := by kernel_rfl
theorem k29_0 : fitAll tab0 29 g29_0 = true := by kernel_rfl
theorem k29_10 : fitAll tab0 29 g29_10 = true := by kernel_rfl
theorem k29_34 : fitAll tab0 29 g29_34 = true := by kernel_rfl
end Go.Proofs.YtnjonnilpfenfaaGreatDoor.VmRows
