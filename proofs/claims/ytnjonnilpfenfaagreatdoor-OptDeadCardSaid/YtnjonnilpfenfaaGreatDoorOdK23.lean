/- The certificates hold. -/
import Derived.Test.YtnjonnilpfenfaaGreatDoorOdT
import Derived.KernelRfl
open Go.Ab
set_option maxRecDepth 100000
namespace Go.Proofs.YtnjonnilpfenfaaGreatDoor.OptDead
theorem k21_23 : fitAll tab0 21 g21_23 = true := by kernel_rfl
theorem k21_47 : fitAll tab0 21 g21_47 = true := by kernel_rfl
theorem k21_71 : fitAll tab0 21 g21_71 = true := by kernel_rfl
theorem k12_15 : fitAllN tab1 12 g12_15 = true := by kernel_rfl
theorem k27_14 : fitAllN tab0 27 g27_14 = true := by kernel_rfl
theorem k27_37 : fitAllN tab0 27 g27_37 = true := by kernel_rfl
theorem k27_61 : fitAllN tab0 27 g27_61 = true := by kernel_rfl
theorem k27_85 : fitAllN tab0 27 g27_85 = true := by kernel_rfl
theorem k27_109 : fitAllN tab0 27 g27_109 = true := by kernel_rfl
theorem k27_133 : fitAllN tab0 27 g27_133 = true := by kernel_rfl
theorem k27_157 : fitAllN tab0 27 g27_157 = true := by kernel_rfl
theorem k27_181 : fitAllN tab0 27 g27_181 = true := by kernel_rfl
theorem k27_205 : fitAllN tab0 27 g27_205 = true := by kernel_rfl
theorem k16_5 : fitAll tab0 16 g16_5 = true := by kernel_rfl
theorem k18_6 : fitAll tab0 18 g18_6 = true := by kernel_rfl
theorem k29_2 : fitAll tab0 29 g29_2 = true := by kernel_rfl
theorem k29_23 : fitAll tab0 29 g29_23 = true := by kernel_rfl
end Go.Proofs.YtnjonnilpfenfaaGreatDoor.OptDead
