/- The certificates hold. -/
import Derived.Test.YtnjonnilpfenfaaGreatDoorOdT
import Derived.KernelRfl
open Go.Ab
set_option maxRecDepth 100000
namespace Go.Proofs.YtnjonnilpfenfaaGreatDoor.OptDead
theorem k21_6 : fitAll tab0 21 g21_6 = true := by kernel_rfl
theorem k21_30 : fitAll tab0 21 g21_30 = true := by kernel_rfl
theorem k21_54 : fitAll tab0 21 g21_54 = true := by kernel_rfl
theorem k21_78 : fitAll tab0 21 g21_78 = true := by kernel_rfl
theorem k27_21 : fitAllN tab0 27 g27_21 = true := by kernel_rfl
theorem k27_44 : fitAllN tab0 27 g27_44 = true := by kernel_rfl
theorem k27_68 : fitAllN tab0 27 g27_68 = true := by kernel_rfl
theorem k27_92 : fitAllN tab0 27 g27_92 = true := by kernel_rfl
theorem k27_116 : fitAllN tab0 27 g27_116 = true := by kernel_rfl
theorem k27_140 : fitAllN tab0 27 g27_140 = true := by kernel_rfl
theorem k27_164 : fitAllN tab0 27 g27_164 = true := by kernel_rfl
theorem k27_188 : fitAllN tab0 27 g27_188 = true := by kernel_rfl
theorem k27_212 : fitAllN tab0 27 g27_212 = true := by kernel_rfl
theorem k16_12 : fitAll tab0 16 g16_12 = true := by kernel_rfl
theorem k18_13 : fitAll tab0 18 g18_13 = true := by kernel_rfl
theorem k29_9 : fitAll tab0 29 g29_9 = true := by kernel_rfl
theorem k25_0 : fitAll tab0 25 g25_0 = true := by kernel_rfl
theorem k28_1 : fitAll tab0 28 g28_1 = true := by kernel_rfl
end Go.Proofs.YtnjonnilpfenfaaGreatDoor.OptDead
