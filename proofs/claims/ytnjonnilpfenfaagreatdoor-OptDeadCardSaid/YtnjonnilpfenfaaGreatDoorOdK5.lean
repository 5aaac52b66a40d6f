/- The certificates hold. -/
import Derived.Test.YtnjonnilpfenfaaGreatDoorOdT
import Derived.KernelRfl
open Go.Ab
set_option maxRecDepth 100000
namespace Go.Proofs.YtnjonnilpfenfaaGreatDoor.OptDead
theorem k21_5 : fitAll tab0 21 g21_5 = true := by kernel_rfl
theorem k21_29 : fitAll tab0 21 g21_29 = true := by kernel_rfl
theorem k21_53 : fitAll tab0 21 g21_53 = true := by kernel_rfl
theorem k21_77 : fitAll tab0 21 g21_77 = true := by kernel_rfl
theorem k27_20 : fitAllN tab0 27 g27_20 = true := by kernel_rfl
theorem k27_43 : fitAllN tab0 27 g27_43 = true := by kernel_rfl
theorem k27_67 : fitAllN tab0 27 g27_67 = true := by kernel_rfl
theorem k27_91 : fitAllN tab0 27 g27_91 = true := by kernel_rfl
theorem k27_115 : fitAllN tab0 27 g27_115 = true := by kernel_rfl
theorem k27_139 : fitAllN tab0 27 g27_139 = true := by kernel_rfl
theorem k27_163 : fitAllN tab0 27 g27_163 = true := by kernel_rfl
theorem k27_187 : fitAllN tab0 27 g27_187 = true := by kernel_rfl
theorem k27_211 : fitAllN tab0 27 g27_211 = true := by kernel_rfl
theorem k16_11 : fitAll tab0 16 g16_11 = true := by kernel_rfl
theorem k18_12 : fitAll tab0 18 g18_12 = true := by kernel_rfl
theorem k29_8 : fitAll tab0 29 g29_8 = true := by kernel_rfl
theorem k22_1 : fitAll tab0 22 g22_1 = true := by kernel_rfl
theorem k28_0 : fitAll tab0 28 g28_0 = true := by kernel_rfl
end Go.Proofs.YtnjonnilpfenfaaGreatDoor.OptDead
