/- The certificates hold. -/
import Derived.Test.YtnjonnilpfenfaaGreatDoorOdT
import Derived.KernelRfl
open Go.Ab
set_option maxRecDepth 100000
namespace Go.Proofs.YtnjonnilpfenfaaGreatDoor.OptDead
theorem k21_14 : fitAll tab0 21 g21_14 = true := by kernel_rfl
theorem k21_38 : fitAll tab0 21 g21_38 = true := by kernel_rfl
theorem k21_62 : fitAll tab0 21 g21_62 = true := by kernel_rfl
theorem k12_6 : fitAllN tab1 12 g12_6 = true := by kernel_rfl
theorem k27_5 : fitAllN tab0 27 g27_5 = true := by kernel_rfl
theorem k27_28 : fitAllN tab0 27 g27_28 = true := by kernel_rfl
theorem k27_52 : fitAllN tab0 27 g27_52 = true := by kernel_rfl
theorem k27_76 : fitAllN tab0 27 g27_76 = true := by kernel_rfl
theorem k27_100 : fitAllN tab0 27 g27_100 = true := by kernel_rfl
theorem k27_124 : fitAllN tab0 27 g27_124 = true := by kernel_rfl
theorem k27_148 : fitAllN tab0 27 g27_148 = true := by kernel_rfl
theorem k27_172 : fitAllN tab0 27 g27_172 = true := by kernel_rfl
theorem k27_196 : fitAllN tab0 27 g27_196 = true := by kernel_rfl
theorem k27_220 : fitAllN tab0 27 g27_220 = true := by kernel_rfl
theorem k17_7 : fitAll tab0 17 g17_7 = true := by kernel_rfl
theorem k29_15 : fitAll tab0 29 g29_15 = true := by kernel_rfl
end Go.Proofs.YtnjonnilpfenfaaGreatDoor.OptDead
