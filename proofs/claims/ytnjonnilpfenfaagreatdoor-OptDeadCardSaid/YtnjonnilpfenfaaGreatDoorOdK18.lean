/- The certificates hold. -/
import Derived.Test.YtnjonnilpfenfaaGreatDoorOdT
import Derived.KernelRfl
open Go.Ab
set_option maxRecDepth 100000
namespace Go.Proofs.YtnjonnilpfenfaaGreatDoor.OptDead
theorem k21_18 : fitAll tab0 21 g21_18 = true := by kernel_rfl
theorem k21_42 : fitAll tab0 21 g21_42 = true := by kernel_rfl
theorem k21_66 : fitAll tab0 21 g21_66 = true := by kernel_rfl
theorem k12_10 : fitAllN tab1 12 g12_10 = true := by kernel_rfl
theorem k27_9 : fitAllN tab0 27 g27_9 = true := by kernel_rfl
theorem k27_32 : fitAllN tab0 27 g27_32 = true := by kernel_rfl
theorem k27_56 : fitAllN tab0 27 g27_56 = true := by kernel_rfl
theorem k27_80 : fitAllN tab0 27 g27_80 = true := by kernel_rfl
theorem k27_104 : fitAllN tab0 27 g27_104 = true := by kernel_rfl
theorem k27_128 : fitAllN tab0 27 g27_128 = true := by kernel_rfl
theorem k27_152 : fitAllN tab0 27 g27_152 = true := by kernel_rfl
theorem k27_176 : fitAllN tab0 27 g27_176 = true := by kernel_rfl
theorem k27_200 : fitAllN tab0 27 g27_200 = true := by kernel_rfl
theorem k16_0 : fitAll tab0 16 g16_0 = true := by kernel_rfl
theorem k18_1 : fitAll tab0 18 g18_1 = true := by kernel_rfl
theorem k17_13 : fitAll tab0 17 g17_13 = true := by kernel_rfl
end Go.Proofs.YtnjonnilpfenfaaGreatDoor.OptDead
