/- The certificates hold. -/
import Derived.Test.YtnjonnilpfenfaaGreatDoorVrT
import Derived.KernelRfl
open Go.Ab
set_option maxRecDepth 100000
namespace Go.Proofs.YtnjonnilpfenfaaGreatDoor.VmRows
theorem k21_9 : fitAll tab0 21 g21_9 = true := by kernel_rfl
theorem k21_30 : fitAll tab0 21 g21_30 = true := by kernel_rfl
theorem k27_11 : fitAllN tab0 27 g27_11 = true := by kernel_rfl
theorem k27_33 : fitAllN tab0 27 g27_33 = true := by kernel_rfl
theorem k27_57 : fitAllN tab0 27 g27_57 = true := by kernel_rfl
theorem k27_81 : fitAllN tab0 27 g27_81 = true := by kernel_rfl
theorem k27_105 : fitAllN tab0 27 g27_105 = true := by kernel_rfl
theorem k27_129 : fitAllN tab0 27 g27_129 = true := by kernel_rfl
theorem k27_153 : fitAllN tab0 27 g27_153 = true := by kernel_rfl
theorem k27_177 : fitAllN tab0 27 g27_177 = true := by kernel_rfl
theorem k27_201 : fitAllN tab0 27 g27_201 = true := by kernel_rfl
theorem k27_225 : fitAllN tab0 27 g27_225 = true := by kernel_rfl
theorem k27_249 : fitAllN tab0 27 g27_249 = true := by kernel_rfl
theorem k27_273 : fitAllN tab0 27 g27_273 = true := by kernel_rfl
theorem k17_9 : fitAll tab0 17 g17_9 = true := by kernel_rfl
theorem k18_17 : fitAll tab0 18 g18_17 = true := by kernel_rfl
theorem k29_5 : fitAll tab0 29 g29_5 = true := by kernel_rfl
theorem k29_15 : fitAll tab0 29 g29_15 = true := by kernel_rfl
theorem k28_1 : fitAll tab0 28 g28_1 = true := by kernel_rfl
end Go.Proofs.YtnjonnilpfenfaaGreatDoor.VmRows
