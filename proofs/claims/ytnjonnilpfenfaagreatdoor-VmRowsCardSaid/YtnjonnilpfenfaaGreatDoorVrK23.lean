/- The certificates hold. -/
import Derived.Test.YtnjonnilpfenfaaGreatDoorVrT
import Derived.KernelRfl
open Go.Ab
set_option maxRecDepth 100000
namespace Go.Proofs.YtnjonnilpfenfaaGreatDoor.VmRows
theorem k21_19 : fitAll tab0 21 g21_19 = true := by kernel_rfl
theorem k25_2 : fitAll tab0 25 g25_2 = true := by kernel_rfl
theorem k27_21 : fitAllN tab0 27 g27_21 = true := by kernel_rfl
theorem k27_43 : fitAllN tab0 27 g27_43 = true := by kernel_rfl
theorem k27_67 : fitAllN tab0 27 g27_67 = true := by kernel_rfl
theorem k27_91 : fitAllN tab0 27 g27_91 = true := by kernel_rfl
theorem k27_115 : fitAllN tab0 27 g27_115 = true := by kernel_rfl
theorem k27_139 : fitAllN tab0 27 g27_139 = true := by kernel_rfl
theorem k27_163 : fitAllN tab0 27 g27_163 = true := by kernel_rfl
theorem k27_187 : fitAllN tab0 27 g27_187 = true := by kernel_rfl
theorem k27_211 : fitAllN tab0 27 g27_211 = true := by kernel_rfl
theorem k27_235 : fitAllN tab0 27 g27_235 = true := by kernel_rfl
theorem k27_259 : fitAllN tab0 27 g27_259 = true := by kernel_rfl
theorem k27_283 : fitAllN tab0 27 g27_283 = true := by kernel_rfl
theorem k18_1 : fitAll tab0 18 g18_1 = true := by kernel_rfl
theorem k18_5 : fitAll tab0 18 g18_5 = true := by kernel_rfl
theorem k16_9 : fitAll tab0 16 g16_9 = true := by kernel_rfl
theorem k29_25 : fitAll tab0 29 g29_25 = true := by kernel_rfl
end Go.Proofs.YtnjonnilpfenfaaGreatDoor.VmRows
