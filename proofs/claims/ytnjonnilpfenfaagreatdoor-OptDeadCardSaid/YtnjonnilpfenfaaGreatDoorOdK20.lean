/- The certificates hold. -/
import Derived.Test.YtnjonnilpfenfaaGreatDoorOdT
import Derived.KernelRfl
open Go.Ab
set_option maxRecDepth 100000
namespace Go.Proofs.YtnjonnilpfenfaaGreatDoor.OptDead
theorem k21_20 : fitAll tab0 21 g21_20 = true := by kernel_rfl
theorem k21_44 : fitAll tab0 21 g21_44 = true := by kernel_rfl
theorem k21_68 : fitAll tab0 21 g21_68 = true := by kernel_rfl
theorem k12_12 : fitAllN tab1 12 g12_12 = true := by kernel_rfl
theorem k27_11 : fitAllN tab0 27 g27_11 = true := by kernel_rfl
theorem k27_34 : fitAllN tab0 27 g27_34 = true := by kernel_rfl
theorem k27_58 : fitAllN tab0 27 g27_58 = true := by kernel_rfl
theorem k27_82 : fitAllN tab0 27 g27_82 = true := by kernel_rfl
theorem k27_106 : fitAllN tab0 27 g27_106 = true := by kernel_rfl
theorem k27_130 : fitAllN tab0 27 g27_130 = true := by kernel_rfl
theorem k27_154 : fitAllN tab0 27 g27_154 = true := by kernel_rfl
theorem k27_178 : fitAllN tab0 27 g27_178 = true := by kernel_rfl
theorem k27_202 : fitAllN tab0 27 g27_202 = true := by kernel_rfl
theorem k16_2 : fitAll tab0 16 g16_2 = true := by kernel_rfl
theorem k18_3 : fitAll tab0 18 g18_3 = true := by kernel_rfl
theorem k19_1 : fitAll tab0 19 g19_1 = true := by kernel_rfl
theorem k29_20 : fitAll tab0 29 g29_20 = true := by kernel_rfl
end Go.Proofs.YtnjonnilpfenfaaGreatDoor.OptDead
