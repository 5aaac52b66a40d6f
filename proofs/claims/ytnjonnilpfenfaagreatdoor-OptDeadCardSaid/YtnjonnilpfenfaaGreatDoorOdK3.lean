/- The certificates hold. -/
import Derived.Test.YtnjonnilpfenfaaGreatDoorOdT
import Derived.KernelRfl
open Go.Ab
set_option maxRecDepth 100000
namespace Go.Proofs.YtnjonnilpfenfaaGreatDoor.OptDead
theorem k21_3 : fitAll tab0 21 g21_3 = true := by kernel_rfl
theorem k21_27 : fitAll tab0 21 g21_27 = true := by kernel_rfl
theorem k21_51 : fitAll tab0 21 g21_51 = true := by kernel_rfl
theorem k21_75 : fitAll tab0 21 g21_75 = true := by kernel_rfl
theorem k27_18 : fitAllN tab0 27 g27_18 = true := by kernel_rfl
theorem k27_41 : fitAllN tab0 27 g27_41 = true := by kernel_rfl
theorem k27_65 : fitAllN tab0 27 g27_65 = true := by kernel_rfl
theorem k27_89 : fitAllN tab0 27 g27_89 = true := by kernel_rfl
theorem k27_113 : fitAllN tab0 27 g27_113 = true := by kernel_rfl
theorem k27_137 : fitAllN tab0 27 g27_137 = true := by kernel_rfl
theorem k27_161 : fitAllN tab0 27 g27_161 = true := by kernel_rfl
theorem k27_185 : fitAllN tab0 27 g27_185 = true := by kernel_rfl
theorem k27_209 : fitAllN tab0 27 g27_209 = true := by kernel_rfl
theorem k16_9 : fitAll tab0 16 g16_9 = true := by kernel_rfl
theorem k18_10 : fitAll tab0 18 g18_10 = true := by kernel_rfl
theorem k29_6 : fitAll tab0 29 g29_6 = true := by kernel_rfl
theorem k29_27 : fitAll tab0 29 g29_27 = true := by kernel_rfl
end Go.Proofs.YtnjonnilpfenfaaGreatDoor.OptDead
