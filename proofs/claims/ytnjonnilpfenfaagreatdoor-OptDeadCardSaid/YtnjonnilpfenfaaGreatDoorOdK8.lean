/- The certificates hold. -/
import Derived.Test.YtnjonnilpfenfaaGreatDoorOdT
import Derived.KernelRfl
open Go.Ab
set_option maxRecDepth 100000
namespace Go.Proofs.YtnjonnilpfenfaaGreatDoor.OptDead
theorem k21_8 : fitAll tab0 21 g21_8 = true := by kernel_rfl
theorem k21_32 : fitAll tab0 21 g21_32 = true := by kernel_rfl
theorem k21_56 : fitAll tab0 21 g21_56 = true := by kernel_rfl
theorem k12_0 : fitAllN tab1 12 g12_0 = true := by kernel_rfl
theorem k8_0 : fitAll tab0 8 g8_0 = true := by kernel_rfl
theorem k27_46 : fitAllN tab0 27 g27_46 = true := by kernel_rfl
theorem k27_70 : fitAllN tab0 27 g27_70 = true := by kernel_rfl
theorem k27_94 : fitAllN tab0 27 g27_94 = true := by kernel_rfl
theorem k27_118 : fitAllN tab0 27 g27_118 = true := by kernel_rfl
theorem k27_142 : fitAllN tab0 27 g27_142 = true := by kernel_rfl
theorem k27_166 : fitAllN tab0 27 g27_166 = true := by kernel_rfl
theorem k27_190 : fitAllN tab0 27 g27_190 = true := by kernel_rfl
theorem k27_214 : fitAllN tab0 27 g27_214 = true := by kernel_rfl
theorem k18_0 : fitAll tab0 18 g18_0 = true := by kernel_rfl
theorem k17_1 : fitAll tab0 17 g17_1 = true := by kernel_rfl
theorem k17_12 : fitAll tab0 17 g17_12 = true := by kernel_rfl
end Go.Proofs.YtnjonnilpfenfaaGreatDoor.OptDead
