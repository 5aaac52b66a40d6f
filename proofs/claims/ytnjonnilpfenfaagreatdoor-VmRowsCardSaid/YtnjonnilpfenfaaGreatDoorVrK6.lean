/- The certificates hold. -/
import Derived.Test.YtnjonnilpfenfaaGreatDoorVrT
import Derived.KernelRfl
open Go.Ab
set_option maxRecDepth 100000
namespace Go.Proofs.YtnjonnilpfenfaaGreatDoor.VmRows
theorem k21_2 : fitAll tab0 21 g21_2 = true := by kernel_rfl
theorem k21_23 : fitAll tab0 21 g21_23 = true := by kernel_rfl
theorem k27_4 : fitAllN tab0 27 g27_4 = true := by kernel_rfl
theorem k27_26 : fitAllN tab0 27 g27_26 = true := by kernel_rfl
theorem k27_50 : fitAllN tab0 27 g27_50 = true := by kernel_rfl
theorem k27_74 : fitAllN tab0 27 g27_74 = true := by kernel_rfl
theorem k27_98 : fitAllN tab0 27 g27_98 = true := by kernel_rfl
theorem k27_122 : fitAllN tab0 27 g27_122 = true := by kernel_rfl
theorem k27_146 : fitAllN tab0 27 g27_146 = true := by kernel_rfl
theorem k27_170 : fitAllN tab0 27 g27_170 = true := by kernel_rfl
theorem k27_194 : fitAllN tab0 27 g27_194 = true := by kernel_rfl
theorem k27_218 : fitAllN tab0 27 g27_218 = true := by kernel_rfl
theorem k27_242 : fitAllN tab0 27 g27_242 = true := by kernel_rfl
theorem k27_266 : fitAllN tab0 27 g27_266 = true := by kernel_rfl
theorem k17_2 : fitAll tab0 17 g17_2 = true := by kernel_rfl
theorem k18_10 : fitAll tab0 18 g18_10 = true := by kernel_rfl
theorem k16_16 : fitAll tab0 16 g16_16 = true := by kernel_rfl
theorem k29_32 : fitAll tab0 29 g29_32 = true := by kernel_rfl
end Go.Proofs.YtnjonnilpfenfaaGreatDoor.VmRows
