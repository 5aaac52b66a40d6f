/- The certificates hold. -/
import Derived.Test.YtnjonnilpfenfaaGreatDoorOdT
import Derived.KernelRfl
open Go.Ab
set_option maxRecDepth 100000
namespace Go.Proofs.YtnjonnilpfenfaaGreatDoor.OptDead
theorem k21_21 : fitAll tab0 21 g21_21 = true := by kernel_rfl
theorem k21_45 : fitAll tab0 21 g21_45 = true := by kernel_rfl
theorem k21_69 : fitAll tab0 21 g21_69 = true := by kernel_rfl
theorem k12_13 : fitAllN tab1 12 g12_13 = true := by kernel_rfl
theorem k27_12 : fitAllN tab0 27 g27_12 = true := by kernel_rfl
theorem k27_35 : fitAllN tab0 27 g27_35 = true := by kernel_rfl
theorem k27_59 : fitAllN tab0 27 g27_59 = true := by kernel_rfl
theorem k27_83 : fitAllN tab0 27 g27_83 = true := by kernel_rfl
theorem k27_107 : fitAllN tab0 27 g27_107 = true := by kernel_rfl
theorem k27_131 : fitAllN tab0 27 g27_131 = true := by kernel_rfl
theorem k27_155 : fitAllN tab0 27 g27_155 = true := by kernel_rfl
theorem k27_179 : fitAllN tab0 27 g27_179 = true := by kernel_rfl
theorem k27_203 : fitAllN tab0 27 g27_203 = true := by kernel_rfl
theorem k16_3 : fitAll tab0 16 g16_3 = true := by kernel_rfl
theorem k18_4 : fitAll tab0 18 g18_4 = true := by kernel_rfl
theorem k29_0 : fitAll tab0 29 g29_0 = true := by kernel_rfl
theorem k29_21 : fitAll tab0 29 g29_21 = true := by kernel_rfl
end Go.Proofs.YtnjonnilpfenfaaGreatDoor.OptDead
