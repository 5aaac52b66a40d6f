/- The certificates hold. -/
import Derived.Test.YtnjonnilpfenfaaGreatDoorOdT
import Derived.KernelRfl
open Go.Ab
set_option maxRecDepth 100000
namespace Go.Proofs.YtnjonnilpfenfaaGreatDoor.OptDead
theorem k21_17 : fitAll tab0 21 g21_17 = true := by kernel_rfl
theorem k21_41 : fitAll tab0 21 g21_41 = true := by kernel_rfl
theorem k21_65 : fitAll tab0 21 g21_65 = true := by kernel_rfl
theorem k12_9 : fitAllN tab1 12 g12_9 = true := by kernel_rfl
theorem k27_8 : fitAllN tab0 27 g27_8 = true := by kernel_rfl
theorem k27_31 : fitAllN tab0 27 g27_31 = true := by kernel_rfl
theorem k27_55 : fitAllN tab0 27 g27_55 = true := by kernel_rfl
theorem k27_79 : fitAllN tab0 27 g27_79 = true := by kernel_rfl
theorem k27_103 : fitAllN tab0 27 g27_103 = true := by kernel_rfl
theorem k27_127 : fitAllN tab0 27 g27_127 = true := by kernel_rfl
theorem k27_151 : fitAllN tab0 27 g27_151 = true := by kernel_rfl
theorem k27_175 : fitAllN tab0 27 g27_175 = true := by kernel_rfl
theorem k27_199 : fitAllN tab0 27 g27_199 = true := by kernel_rfl
theorem k27_223 : fitAllN tab0 27 g27_223 = true := by kernel_rfl
theorem k17_10 : fitAll tab0 17 g17_10 = true := by kernel_rfl
theorem k29_18 : fitAll tab0 29 g29_18 = true := by kernel_rfl
end Go.Proofs.YtnjonnilpfenfaaGreatDoor.OptDead
