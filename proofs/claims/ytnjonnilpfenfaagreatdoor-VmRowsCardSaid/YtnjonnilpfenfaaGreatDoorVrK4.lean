/- The certificates hold. -/
import Derived.Test.YtnjonnilpfenfaaGreatDoorVrT
import Derived.KernelRfl
open Go.Ab
set_option maxRecDepth 100000
namespace Go.Proofs.YtnjonnilpfenfaaGreatDoor.VmRows
theorem k21_0 : fitAll tab0 21 g21_0 = true := by kernel_rfl
theorem k21_21 : fitAll tab0 21 g21_21 = true := by kernel_rfl
theorem k27_2 : fitAllN tab0 27 g27_2 = true := by kernel_rfl
theorem k27_24 : fitAllN tab0 27 g27_24 = true := by kernel_rfl
theorem k27_48 : fitAllN tab0 27 g27_48 = true := by kernel_rfl
theorem k27_72 : fitAllN tab0 27 g27_72 = true := by kernel_rfl
theorem k27_96 : fitAllN tab0 27 g27_96 = true := by kernel_rfl
theorem k27_120 : fitAllN tab0 27 g27_120 = true := by kernel_rfl
theorem k27_144 : fitAllN tab0 27 g27_144 = true := by kernel_rfl
theorem k27_168 : fitAllN tab0 27 g27_168 = true := by kernel_rfl
theorem k27_192 : fitAllN tab0 27 g27_192 = true := by kernel_rfl
theorem k27_216 : fitAllN tab0 27 g27_216 = true := by kernel_rfl
theorem k27_240 : fitAllN tab0 27 g27_240 = true := by kernel_rfl
theorem k27_264 : fitAllN tab0 27 g27_264 = true := by kernel_rfl
theorem k17_0 : fitAll tab0 17 g17_0 = true := by kernel_rfl
theorem k18_8 : fitAll tab0 18 g18_8 = true := by kernel_rfl
theorem k16_14 : fitAll tab0 16 g16_14 = true := by kernel_rfl
theorem k29_30 : fitAll tab0 29 g29_30 = true := by kernel_rfl
end Go.Proofs.YtnjonnilpfenfaaGreatDoor.VmRows
