/- The certificates hold. -/
import Derived.Test.YtnjonnilpfenfaaGreatDoorVrT
import Derived.KernelRfl
open Go.Ab
set_option maxRecDepth 100000
namespace Go.Proofs.YtnjonnilpfenfaaGreatDoor.VmRows
theorem k21_13 : fitAll tab0 21 g21_13 = true := by kernel_rfl
theorem k21_34 : fitAll tab0 21 g21_34 = true := by kernel_rfl
theorem k27_15 : fitAllN tab0 27 g27_15 = true := by kernel_rfl
theorem k27_37 : fitAllN tab0 27 g27_37 = true := by kernel_rfl
theorem k27_61 : fitAllN tab0 27 g27_61 = true := by kernel_rfl
theorem k27_85 : fitAllN tab0 27 g27_85 = true := by kernel_rfl
theorem k27_109 : fitAllN tab0 27 g27_109 = true := by kernel_rfl
theorem k27_133 : fitAllN tab0 27 g27_133 = true := by kernel_rfl
theorem k27_157 : fitAllN tab0 27 g27_157 = true := by kernel_rfl
theorem k27_181 : fitAllN tab0 27 g27_181 = true := by kernel_rfl
theorem k27_205 : fitAllN tab0 27 g27_205 = true := by kernel_rfl
theorem k27_229 : fitAllN tab0 27 g27_229 = true := by kernel_rfl
theorem k27_253 : fitAllN tab0 27 g27_253 = true := by kernel_rfl
theorem k27_277 : fitAllN tab0 27 g27_277 = true := by kernel_rfl
theorem k17_13 : fitAll tab0 17 g17_13 = true := by kernel_rfl
theorem k19_3 : fitAll tab0 19 g19_3 = true := by kernel_rfl
theorem k29_9 : fitAll tab0 29 g29_9 = true := by kernel_rfl
theorem k29_19 : fitAll tab0 29 g29_19 = true := by kernel_rfl
theorem k118_3 : fitsN c118_3 (evFN Tryz.prog [] sp0 1000 118 c118_3.args c118_3.start) = true := by kernel_rfl
end Go.Proofs.YtnjonnilpfenfaaGreatDoor.VmRows
