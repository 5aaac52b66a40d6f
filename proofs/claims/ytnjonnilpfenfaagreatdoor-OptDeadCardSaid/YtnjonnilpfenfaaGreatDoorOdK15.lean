/- The certificates hold. -/
import Derived.Test.YtnjonnilpfenfaaGreatDoorOdT
import Derived.KernelRfl
open Go.Ab
set_option maxRecDepth 100000
namespace Go.Proofs.YtnjonnilpfenfaaGreatDoor.OptDead
theorem k21_15 : fitAll tab0 21 g21_15 = true := by kernel_rfl
theorem k21_39 : fitAll tab0 21 g21_39 = true := by kernel_rfl
theorem k21_63 : fitAll tab0 21 g21_63 = true := by kernel_rfl
theorem k12_7 : fitAllN tab1 12 g12_7 = true := by kernel_rfl
theorem k27_6 : fitAllN tab0 27 g27_6 = true := by kernel_rfl
theorem k27_29 : fitAllN tab0 27 g27_29 = true := by kernel_rfl
theorem k27_53 : fitAllN tab0 27 g27_53 = true := by kernel_rfl
theorem k27_77 : fitAllN tab0 27 g27_77 = true := by kernel_rfl
theorem k27_101 : fitAllN tab0 27 g27_101 = true := by kernel_rfl
theorem k27_125 : fitAllN tab0 27 g27_125 = true := by kernel_rfl
theorem k27_149 : fitAllN tab0 27 g27_149 = true := by kernel_rfl
theorem k27_173 : fitAllN tab0 27 g27_173 = true := by kernel_rfl
theorem k27_197 : fitAllN tab0 27 g27_197 = true := by kernel_rfl
theorem k27_221 : fitAllN tab0 27 g27_221 = true := by kernel_rfl
theorem k17_8 : fitAll tab0 17 g17_8 = true := by kernel_rfl
theorem k29_16 : fitAll tab0 29 g29_16 = true := by kernel_rfl
end Go.Proofs.YtnjonnilpfenfaaGreatDoor.OptDead
