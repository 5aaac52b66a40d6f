/- The certificates hold. -/
import Derived.Test.YtnjonnilpfenfaaGreatDoorVrT
import Derived.KernelRfl
open Go.Ab
set_option maxRecDepth 100000
namespace Go.Proofs.YtnjonnilpfenfaaGreatDoor.VmRows
theorem k21_10 : fitAll tab0 21 g21_10 = true := by kernel_rfl
theorem k21_31 : fitAll tab0 21 g21_31 = true := by kernel_rfl
theorem k27_12 : fitAllN tab0 27 g27_12 = true := by kernel_rfl
theorem k27_34 : fitAllN tab0 27 g27_34 = true := by kernel_rfl
theorem k27_58 : fitAllN tab0 27 g27_58 = true := by kernel_rfl
theorem k27_82 : fitAllN tab0 27 g27_82 = true := by kernel_rfl
theorem k27_106 : fitAllN tab0 27 g27_106 = true := by kernel_rfl
theorem k27_130 : fitAllN tab0 27 g27_130 = true := by kernel_rfl
theorem k27_154 : fitAllN tab0 27 g27_154 = true := by kernel_rfl
theorem k27_178 : fitAllN tab0 27 g27_178 = true := by kernel_rfl
theorem k27_202 : fitAllN tab0 27 g27_202 = true := by kernel_rfl
theorem k27_226 : fitAllN tab0 27 g27_226 = true := by kernel_rfl
theorem k27_250 : fitAllN tab0 27 g27_250 = true := by kernel_rfl
theorem k27_274 : fitAllN tab0 27 g27_274 = true := by kernel_rfl
theorem k17_10 : fitAll tab0 17 g17_10 = true := by kernel_rfl
theorem k19_0 : fitAll tab0 19 g19_0 = true := by kernel_rfl
theorem k29_6 : fitAll tab0 29 g29_6 = true := by kernel_rfl
theorem k29_16 : fitAll tab0 29 g29_16 = true := by kernel_rfl
theorem k118_0 : fitsN c118_0 (evFN Tryz.prog [] sp0 1000 118 c118_0.args c118_0.start) = true := by kernel_rfl
end Go.Proofs.YtnjonnilpfenfaaGreatDoor.VmRows
