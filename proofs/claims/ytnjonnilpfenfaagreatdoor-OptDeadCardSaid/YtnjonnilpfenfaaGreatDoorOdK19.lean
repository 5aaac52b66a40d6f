/- The certificates hold. -/
import Derived.Test.YtnjonnilpfenfaaGreatDoorOdT
import Derived.KernelRfl
open Go.Ab
set_option maxRecDepth 100000
namespace Go.Proofs.YtnjonnilpfenfaaGreatDoor.OptDead
theorem k21_19 : fitAll tab0 21 g21_19 = true := by kernel_rfl
theorem k21_43 : fitAll tab0 21 g21_43 = true := by kernel_rfl
theorem k21_67 : fitAll tab0 21 g21_67 = true := by kernel_rfl
theorem k12_11 : fitAllN tab1 12 g12_11 = true := by kernel_rfl
theorem k27_10 : fitAllN tab0 27 g27_10 = true := by kernel_rfl
theorem k27_33 : fitAllN tab0 27 g27_33 = true := by kernel_rfl
theorem k27_57 : fitAllN tab0 27 g27_57 = true := by kernel_rfl
theorem k27_81 : fitAllN tab0 27 g27_81 = true := by kernel_rfl
theorem k27_105 : fitAllN tab0 27 g27_105 = true := by kernel_rfl
theorem k27_129 : fitAllN tab0 27 g27_129 = true := by kernel_rfl
theorem k27_153 : fitAllN tab0 27 g27_153 = true := by kernel_rfl
theorem k27_177 : fitAllN tab0 27 g27_177 = true := by kernel_rfl
theorem k27_201 : fitAllN tab0 27 g27_201 = true := by kernel_rfl
theorem k16_1 : fitAll tab0 16 g16_1 = true := by kernel_rfl
theorem k18_2 : fitAll tab0 18 g18_2 = true := by kernel_rfl
theorem k19_0 : fitAll tab0 19 g19_0 = true := by kernel_rfl
theorem k29_19 : fitAll tab0 29 g29_19 = true := by kernel_rfl
end Go.Proofs.YtnjonnilpfenfaaGreatDoor.OptDead
