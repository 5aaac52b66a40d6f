/- The certificates hold. -/
import Derived.Test.YtnjonnilpfenfaaGreatDoorOdT
import Derived.KernelRfl
open Go.Ab
set_option maxRecDepth 100000
namespace Go.Proofs.YtnjonnilpfenfaaGreatDoor.OptDead
theorem k21_4 : fitAll tab0 21 g21_4 = true := by kernel_rfl
theorem k21_28 : fitAll tab0 21 g21_28 = true := by kernel_rfl
theorem k21_52 : fitAll tab0 21 g21_52 = true := by kernel_rfl
theorem k21_76 : fitAll tab0 21 g21_76 = true := by kernel_rfl
theorem k27_19 : fitAllN tab0 27 g27_19 = true := by kernel_rfl
theorem k27_42 : fitAllN tab0 27 g27_42 = true := by kernel_rfl
theorem k27_66 : fitAllN tab0 27 g27_66 = true := by kernel_rfl
theorem k27_90 : fitAllN tab0 27 g27_90 = true := by kernel_rfl
theorem k27_114 : fitAllN tab0 27 g27_114 = true := by kernel_rfl
theorem k27_138 : fitAllN tab0 27 g27_138 = true := by kernel_rfl
theorem k27_162 : fitAllN tab0 27 g27_162 = true := by kernel_rfl
theorem k27_186 : fitAllN tab0 27 g27_186 = true := by kernel_rfl
theorem k27_210 : fitAllN tab0 27 g27_210 = true := by kernel_rfl
theorem k16_10 : fitAll tab0 16 g16_10 = true := by kernel_rfl
theorem k18_11 : fitAll tab0 18 g18_11 = true := by kernel_rfl
theorem k29_7 : fitAll tab0 29 g29_7 = true := by kernel_rfl
theorem k22_0 : fitAll tab0 22 g22_0 = true := by kernel_rfl
theorem k25_1 : fitAll tab0 25 g25_1 = true := by kernel_rfl
end Go.Proofs.YtnjonnilpfenfaaGreatDoor.OptDead
