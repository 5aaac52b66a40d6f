/- The certificates hold. -/
import Derived.Test.YtnjonnilpfenfaaGreatDoorOdT
import Derived.KernelRfl
open Go.Ab
set_option maxRecDepth 100000
namespace Go.Proofs.YtnjonnilpfenfaaGreatDoor.OptDead
theorem k21_2 : fitAll tab0 21 g21_2 = true := by kernel_rfl
theorem k21_26 : fitAll tab0 21 g21_26 = true := by kernel_rfl
theorem k21_50 : fitAll tab0 21 g21_50 = true := by kernel_rfl
theorem k21_74 : fitAll tab0 21 g21_74 = true := by kernel_rfl
theorem k27_17 : fitAllN tab0 27 g27_17 = true := by kernel_rfl
theorem k27_40 : fitAllN tab0 27 g27_40 = true := by kernel_rfl
theorem k27_64 : fitAllN tab0 27 g27_64 = true := by kernel_rfl
theorem k27_88 : fitAllN tab0 27 g27_88 = true := by kernel_rfl
theorem k27_112 : fitAllN tab0 27 g27_112 = true := by kernel_rfl
theorem k27_136 : fitAllN tab0 27 g27_136 = true := by kernel_rfl
theorem k27_160 : fitAllN tab0 27 g27_160 = true := by kernel_rfl
theorem k27_184 : fitAllN tab0 27 g27_184 = true := by kernel_rfl
theorem k27_208 : fitAllN tab0 27 g27_208 = true := by kernel_rfl
theorem k16_8 : fitAll tab0 16 g16_8 = true := by kernel_rfl
theorem k18_9 : fitAll tab0 18 g18_9 = true := by kernel_rfl
theorem k29_5 : fitAll tab0 29 g29_5 = true := by kernel_rfl
theorem k29_26 : fitAll tab0 29 g29_26 = true := by kernel_rfl
end Go.Proofs.YtnjonnilpfenfaaGreatDoor.OptDead
