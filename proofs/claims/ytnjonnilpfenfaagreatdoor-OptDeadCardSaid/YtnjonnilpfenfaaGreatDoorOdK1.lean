/- The certificates hold. -/
import Derived.Test.YtnjonnilpfenfaaGreatDoorOdT
import Derived.KernelRfl
open Go.Ab
set_option maxRecDepth 100000
namespace Go.Proofs.YtnjonnilpfenfaaGreatDoor.OptDead
theorem k21_1 : fitAll tab0 21 g21_1 = true := by kernel_rfl
theorem k21_25 : fitAll tab0 21 g21_25 = true := by kernel_rfl
theorem k21_49 : fitAll tab0 21 g21_49 = true := by kernel_rfl
theorem k21_73 : fitAll tab0 21 g21_73 = true := by kernel_rfl
theorem k27_16 : fitAllN tab0 27 g27_16 = true := by kernel_rfl
theorem k27_39 : fitAllN tab0 27 g27_39 = true := by kernel_rfl
theorem k27_63 : fitAllN tab0 27 g27_63 = true := by kernel_rfl
theorem k27_87 : fitAllN tab0 27 g27_87 = true := by kernel_rfl
theorem k27_111 : fitAllN tab0 27 g27_111 = true := by kernel_rfl
theorem k27_135 : fitAllN tab0 27 g27_135 = true := by kernel_rfl
theorem k27_159 : fitAllN tab0 27 g27_159 = true := by kernel_rfl
theorem k27_183 : fitAllN tab0 27 g27_183 = true := by kernel_rfl
theorem k27_207 : fitAllN tab0 27 g27_207 = true := by kernel_rfl
theorem k16_7 : fitAll tab0 16 g16_7 = true := by kernel_rfl
theorem k18_8 : fitAll tab0 18 g18_8 = true := by kernel_rfl
theorem k29_4 : fitAll tab0 29 g29_4 = true := by kernel_rfl
theorem k29_25 : fitAll tab0 29 g29_25 = true := by kernel_rfl
end Go.Proofs.YtnjonnilpfenfaaGreatDoor.OptDead
