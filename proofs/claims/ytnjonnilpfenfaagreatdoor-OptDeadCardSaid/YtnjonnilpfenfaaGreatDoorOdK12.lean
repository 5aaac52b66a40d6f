/- The certificates hold. -/
import Derived.Test.YtnjonnilpfenfaaGreatDoorOdT
import Derived.KernelRfl
open Go.Ab
set_option maxRecDepth 100000
namespace Go.Proofs.YtnjonnilpfenfaaGreatDoor.OptDead
theorem k21_12 : fitAll tab0 21 g21_12 = true := by kernel_rfl
theorem k21_36 : fitAll tab0 21 g21_36 = true := by kernel_rfl
theorem k21_60 : fitAll tab0 21 g21_60 = true := by kernel_rfl
theorem k12_4 : fitAllN tab1 12 g12_4 = true := by kernel_rfl
theorem k27_3 : fitAllN tab0 27 g27_3 = true := by kernel_rfl
theorem k27_26 : fitAllN tab0 27 g27_26 = true := by kernel_rfl
theorem k27_50 : fitAllN tab0 27 g27_50 = true := by kernel_rfl
theorem k27_74 : fitAllN tab0 27 g27_74 = true := by kernel_rfl
theorem k27_98 : fitAllN tab0 27 g27_98 = true := by kernel_rfl
theorem k27_122 : fitAllN tab0 27 g27_122 = true := by kernel_rfl
theorem k27_146 : fitAllN tab0 27 g27_146 = true := by kernel_rfl
theorem k27_170 : fitAllN tab0 27 g27_170 = true := by kernel_rfl
theorem k27_194 : fitAllN tab0 27 g27_194 = true := by kernel_rfl
theorem k27_218 : fitAllN tab0 27 g27_218 = true := by kernel_rfl
theorem k17_5 : fitAll tab0 17 g17_5 = true := by kernel_rfl
theorem k29_13 : fitAll tab0 29 g29_13 = true := by kernel_rfl
end Go.Proofs.YtnjonnilpfenfaaGreatDoor.OptDead
