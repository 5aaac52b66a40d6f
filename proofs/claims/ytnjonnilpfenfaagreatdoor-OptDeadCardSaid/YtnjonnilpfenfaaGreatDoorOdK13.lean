/- The certificates hold. -/
import Derived.Test.YtnjonnilpfenfaaGreatDoorOdT
import Derived.KernelRfl
open Go.Ab
set_option maxRecDepth 100000
namespace Go.Proofs.YtnjonnilpfenfaaGreatDoor.OptDead
theorem k21_13 : fitAll tab0 21 g21_13 = true := by kernel_rfl
theorem k21_37 : fitAll tab0 21 g21_37 = true := by kernel_rfl
theorem k21_61 : fitAll tab0 21 g21_61 = true := by kernel_rfl
theorem k12_5 : fitAllN tab1 12 g12_5 = true := by kernel_rfl
theorem k27_4 : fitAllN tab0 27 g27_4 = true := by kernel_rfl
theorem k27_27 : fitAllN tab0 27 g27_27 = true := by kernel_rfl
theorem k27_51 : fitAllN tab0 27 g27_51 = true := by kernel_rfl
theorem k27_75 : fitAllN tab0 27 g27_75 = true := by kernel_rfl
theorem k27_99 : fitAllN tab0 27 g27_99 = true := by kernel_rfl
theorem k27_123 : fitAllN tab0 27 g27_123 = true := by kernel_rfl
theorem k27_147 : fitAllN tab0 27 g27_147 = true := by kernel_rfl
theorem k27_171 : fitAllN tab0 27 g27_171 = true := by kernel_rfl
theorem k27_195 : fitAllN tab0 27 g27_195 = true := by kernel_rfl
theorem k27_219 : fitAllN tab0 27 g27_219 = true := by kernel_rfl
theorem k17_6 : fitAll tab0 17 g17_6 = true := by kernel_rfl
theorem k29_14 : fitAll tab0 29 g29_14 = true := by kernel_rfl
end Go.Proofs.YtnjonnilpfenfaaGreatDoor.OptDead
