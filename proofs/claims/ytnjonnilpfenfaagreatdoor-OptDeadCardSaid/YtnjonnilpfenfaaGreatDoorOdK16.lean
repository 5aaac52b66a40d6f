/- The certificates hold. -/
import Derived.Test.YtnjonnilpfenfaaGreatDoorOdT
import Derived.KernelRfl
open Go.Ab
set_option maxRecDepth 100000
namespace Go.Proofs.YtnjonnilpfenfaaGreatDoor.OptDead
theorem k21_16 : fitAll tab0 21 g21_16 = true := by kernel_rfl
theorem k21_40 : fitAll tab0 21 g21_40 = true := by kernel_rfl
theorem k21_64 : fitAll tab0 21 g21_64 = true := by kernel_rfl
theorem k12_8 : fitAllN tab1 12 g12_8 = true := by kernel_rfl
theorem k27_7 : fitAllN tab0 27 g27_7 = true := by kernel_rfl
theorem k27_30 : fitAllN tab0 27 g27_30 = true := by kernel_rfl
theorem k27_54 : fitAllN tab0 27 g27_54 = true := by kernel_rfl
theorem k27_78 : fitAllN tab0 27 g27_78 = true := by kernel_rfl
theorem k27_102 : fitAllN tab0 27 g27_102 = true := by kernel_rfl
theorem k27_126 : fitAllN tab0 27 g27_126 = true := by kernel_rfl
theorem k27_150 : fitAllN tab0 27 g27_150 = true := by kernel_rfl
theorem k27_174 : fitAllN tab0 27 g27_174 = true := by kernel_rfl
theorem k27_198 : fitAllN tab0 27 g27_198 = true := by kernel_rfl
theorem k27_222 : fitAllN tab0 27 g27_222 = true := by kernel_rfl
theorem k17_9 : fitAll tab0 17 g17_9 = true := by kernel_rfl
theorem k29_17 : fitAll tab0 29 g29_17 = true := by kernel_rfl
end Go.Proofs.YtnjonnilpfenfaaGreatDoor.OptDead
