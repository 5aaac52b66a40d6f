/- The certificates hold. -/
import Derived.Test.YtnjonnilpfenfaaGreatDoorOdT
import Derived.KernelRfl
open Go.Ab
set_option maxRecDepth 100000
namespace Go.Proofs.YtnjonnilpfenfaaGreatDoor.OptDead
theorem k21_0 : fitAll tab0 21 g21_0 = true := by kernel_rfl
theorem k21_24 : fitAll tab0 21 g21_24 = true := by kernel_rfl
theorem k21_48 : fitAll tab0 21 g21_48 = true := by kernel_rfl
theorem k21_72 : fitAll tab0 21 g21_72 = true := by kernel_rfl
theorem k27_15 : fitAllN tab0 27 g27_15 = true := by kernel_rfl
theorem k27_38 : fitAllN tab0 27 g27_38 = true := by kernel_rfl
theorem k27_62 : fitAllN tab0 27 g27_62 = true := by kernel_rfl
theorem k27_86 : fitAllN tab0 27 g27_86 = true := by kernel_rfl
theorem k27_110 : fitAllN tab0 27 g27_110 = true := by kernel_rfl
theorem k27_134 : fitAllN tab0 27 g27_134 = true := by kernel_rfl
theorem k27_158 : fitAllN tab0 27 g27_158 = true := by kernel_rfl
theorem k27_182 : fitAllN tab0 27 g27_182 = true := by kernel_rfl
theorem k27_206 : fitAllN tab0 27 g27_206 = true := by kernel_rfl
theorem k16_6 : fitAll tab0 16 g16_6 = true := by kernel_rfl
theorem k18_7 : fitAll tab0 18 g18_7 = true := by kernel_rfl
theorem k29_3 : fitAll tab0 29 g29_3 = true := by kernel_rfl
theorem k29_24 : fitAll tab0 29 g29_24 = true := by kernel_rfl
end Go.Proofs.YtnjonnilpfenfaaGreatDoor.OptDead
