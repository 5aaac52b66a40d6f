/- The certificates hold. -/
import Derived.Test.YtnjonnilpfenfaaGreatDoorOdT
import Derived.KernelRfl
open Go.Ab
set_option maxRecDepth 100000
namespace Go.Proofs.YtnjonnilpfenfaaGreatDoor.OptDead
theorem k21_7 : fitAll tab0 21 g21_7 = true := by kernel_rfl
theorem k21_31 : fitAll tab0 21 g21_31 = true := by kernel_rfl
theorem k21_55 : fitAll tab0 21 g21_55 = true := by kernel_rfl
theorem k21_79 : fitAll tab0 21 g21_79 = true := by kernel_rfl
theorem k27_22 : fitAllN tab0 27 g27_22 = true := by kernel_rfl
theorem k27_45 : fitAllN tab0 27 g27_45 = true := by kernel_rfl
theorem k27_69 : fitAllN tab0 27 g27_69 = true := by kernel_rfl
theorem k27_93 : fitAllN tab0 27 g27_93 = true := by kernel_rfl
theorem k27_117 : fitAllN tab0 27 g27_117 = true := by kernel_rfl
theorem k27_141 : fitAllN tab0 27 g27_141 = true := by kernel_rfl
theorem k27_165 : fitAllN tab0 27 g27_165 = true := by kernel_rfl
theorem k27_189 : fitAllN tab0 27 g27_189 = true := by kernel_rfl
theorem k27_213 : fitAllN tab0 27 g27_213 = true := by kernel_rfl
theorem k16_13 : fitAll tab0 16 g16_13 = true := by kernel_rfl
theorem k17_0 : fitAll tab0 17 g17_0 = true := by kernel_rfl
theorem k17_11 : fitAll tab0 17 g17_11 = true := by kernel_rfl
end Go.Proofs.YtnjonnilpfenfaaGreatDoor.OptDead
