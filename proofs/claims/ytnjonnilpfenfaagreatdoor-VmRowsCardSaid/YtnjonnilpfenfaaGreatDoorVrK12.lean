/- The certificates hold. -/
import Derived.Test.YtnjonnilpfenfaaGreatDoorVrT
import Derived.KernelRfl
open Go.Ab
set_option maxRecDepth 100000
namespace Go.Proofs.YtnjonnilpfenfaaGreatDoor.VmRows
theorem k21_8 : fitAll tab0 21 g21_8 = true := by kernel_rfl
theorem k21_29 : fitAll tab0 21 g21_29 = true := by kernel_rfl
theorem k27_10 : fitAllN tab0 27 g27_10 = true := by kernel_rfl
theorem k27_32 : fitAllN tab0 27 g27_32 = true := by kernel_rfl
theorem k27_56 : fitAllN tab0 27 g27_56 = true := by kernel_rfl
theorem k27_80 : fitAllN tab0 27 g27_80 = true := by kernel_rfl
theorem k27_104 : fitAllN tab0 27 g27_104 = true := by kernel_rfl
theorem k27_128 : fitAllN tab0 27 g27_128 = true := by kernel_rfl
theorem k27_152 : fitAllN tab0 27 g27_152 = true := by kernel_rfl
theorem k27_176 : fitAllN tab0 27 g27_176 = true := by kernel_rfl
theorem k27_200 : fitAllN tab0 27 g27_200 = true := by kernel_rfl
theorem k27_224 : fitAllN tab0 27 g27_224 = true := by kernel_rfl
theorem k27_248 : fitAllN tab0 27 g27_248 = true := by kernel_rfl
theorem k27_272 : fitAllN tab0 27 g27_272 = true := by kernel_rfl
theorem k17_8 : fitAll tab0 17 g17_8 = true := by kernel_rfl
theorem k18_16 : fitAll tab0 18 g18_16 = true := by kernel_rfl
theorem k29_4 : fitAll tab0 29 g29_4 = true := by kernel_rfl
theorem k29_14 : fitAll tab0 29 g29_14 = true := by kernel_rfl
theorem k28_0 : fitAll tab0 28 g28_0 = true := by kernel_rfl
end Go.Proofs.YtnjonnilpfenfaaGreatDoor.VmRows
