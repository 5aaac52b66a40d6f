/- The certificates hold. -/
import Derived.Test.YtnjonnilpfenfaaGreatDoorVrT
import Derived.KernelRfl
open Go.Ab
set_option maxRecDepth 100000
namespace Go.Proofs.YtnjonnilpfenfaaGreatDoor.VmRows
theorem k21_11 : fitAll tab0 21 g21_11 = true := by kernel_rfl
theorem k21_32 : fitAll tab0 21 g21_32 = true := by kernel_rfl
theorem k27_13 : fitAllN tab0 27 g27_13 = true := by kernel_rfl
theorem k27_35 : fitAllN tab0 27 g27_35 = true := by kernel_rfl
theorem k27_59 : fitAllN tab0 27 g27_59 = true := by kernel_rfl
theorem k27_83 : fitAllN tab0 27 g27_83 = true := by kernel_rfl
theorem k27_107 : fitAllN tab0 27 g27_107 = true := by kernel_rfl
theorem k27_131 : fitAllN tab0 27 g27_131 = true := by kernel_rfl
theorem k27_155 : fitAllN tab0 27 g27_155 = true := by kernel_rfl
theorem k27_179 : fitAllN tab0 27 g27_179 = true := by kernel_rfl
theorem k27_203 : fitAllN tab0 27 g27_203 = true := by kernel_rfl
theorem k27_227 : fitAllN tab0 27 g27_227 = true := by kernel_rfl
theorem k27_251 : fitAllN tab0 27 g27_251 = true := by kernel_rfl
theorem k27_275 : fitAllN tab0 27 g27_275 = true := by kernel_rfl
theorem k17_11 : fitAll tab0 17 g17_11 = true := by kernel_rfl
theorem k19_1 : fitAll tab0 19 g19_1 = true := by kernel_rfl
theorem k29_7 : fitAll tab0 29 g29_7 = true := by kernel_rfl
theorem k29_17 : fitAll tab0 29 g29_17 = true := by kernel_rfl
theorem k118_1 : fitsN c118_1 (evFN Tryz.prog [] sp0 1000 118 c118_1.args c118_1.start) = true := by kernel_rfl
end Go.Proofs.YtnjonnilpfenfaaGreatDoor.VmRows
