/- The certificates hold. -/
import Derived.Test.YtnjonnilpfenfaaGreatDoorOdT
import Derived.KernelRfl
open Go.Ab
set_option maxRecDepth 100000
namespace Go.Proofs.YtnjonnilpfenfaaGreatDoor.OptDead
theorem k21_22 : fitAll tab0 21 g21_22 = true := by kernel_rfl
theorem k21_46 : fitAll tab0 21 g21_46 = true := by kernel_rfl
theorem k21_70 : fitAll tab0 21 g21_70 = true := by kernel_rfl
theorem k12_14 : fitAllN tab1 12 g12_14 = true := by kernel_rfl
theorem k27_13 : fitAllN tab0 27 g27_13 = true := by kernel_rfl
theorem k27_36 : fitAllN tab0 27 g27_36 = true := by kernel_rfl
theorem k27_60 : fitAllN tab0 27 g27_60 = true := by kernel_rfl
theorem k27_84 : fitAllN tab0 27 g27_84 = true := by kernel_rfl
theorem k27_108 : fitAllN tab0 27 g27_108 = true := by kernel_rfl
theorem k27_132 : fitAllN tab0 27 g27_132 = true := by kernel_rfl
theorem k27_156 : fitAllN tab0 27 g27_156 = true := by kernel_rfl
theorem k27_180 : fitAllN tab0 27 g27_180 = true := by kernel_rfl
theorem k27_204 : fitAllN tab0 27 g27_204 = true := by kernel_rfl
theorem k16_4 : fitAll tab0 16 g16_4 = true := by kernel_rfl
theorem k18_5 : fitAll tab0 18 g18_5 = true := by kernel_rfl
theorem k29_1 : fitAll tab0 29 g29_1 = true := by kernel_rfl
theorem k29_22 : fitAll tab0 29 g29_22 = true := by kernel_rfl
end Go.Proofs.YtnjonnilpfenfaaGreatDoor.OptDead
