/- The certificates hold. -/
import Derived.Test.YtnjonnilpfenfaaGreatDoorVrT
import Derived.KernelRfl
open Go.Ab
set_option maxRecDepth 100000
namespace Go.Proofs.YtnjonnilpfenfaaGreatDoor.VmRows
theorem k21_12 : fitAll tab0 21 g21_12 = true := by kernel_rfl
theorem k21_33 : fitAll tab0 21 g21_33 = true := by kernel_rfl
theorem k27_14 : fitAllN tab0 27 g27_14 = true := by kernel_rfl
theorem k27_36 : fitAllN tab0 27 g27_36 = true := by kernel_rfl
theorem k27_60 : fitAllN tab0 27 g27_60 = true := by kernel_rfl
theorem k27_84 : fitAllN tab0 27 g27_84 = true := by kernel_rfl
theorem k27_108 : fitAllN tab0 27 g27_108 = true := by kernel_rfl
theorem k27_132 : fitAllN tab0 27 g27_132 = true := by kernel_rfl
theorem k27_156 : fitAllN tab0 27 g27_156 = true := by kernel_rfl
theorem k27_180 : fitAllN tab0 27 g27_180 = true := by kernel_rfl
theorem k27_204 : fitAllN tab0 27 g27_204 = true := by kernel_rfl
theorem k27_228 : fitAllN tab0 27 g27_228 = true := by kernel_rfl
theorem k27_252 : fitAllN tab0 27 g27_252 = true := by kernel_rfl
theorem k27_276 : fitAllN tab0 27 g27_276 = true := by kernel_rfl
theorem k17_12 : fitAll tab0 17 g17_12 = true := by kernel_rfl
theorem k19_2 : fitAll tab0 19 g19_2 = true := by kernel_rfl
theorem k29_8 : fitAll tab0 29 g29_8 = true := by kernel_rfl
theorem k29_18 : fitAll tab0 29 g29_18 = true := by kernel_rfl
theorem k118_2 : fitsN c118_2 (evFN Tryz.prog [] sp0 1000 118 c118_2.args c118_2.start) = true := by kernel_rfl
end Go.Proofs.YtnjonnilpfenfaaGreatDoor.VmRows
