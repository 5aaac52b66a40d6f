/- The certificates hold. -/
import Derived.Test.YtnjonnilpfenfaaGreatDoorVrT
import Derived.KernelRfl
open Go.Ab
set_option maxRecDepth 100000
namespace Go.Proofs.YtnjonnilpfenfaaGreatDoor.VmRows
theorem k21_14 : fitAll tab0 21 g21_14 = true := by kernel_rfl
theorem k21_35 : fitAll tab0 21 g21_35 = true := by kernel_rfl
theorem k27_16 : fitAllN tab0 27 g27_16 = true := by kernel_rfl
theorem k27_38 : fitAllN tab0 27 g27_38 = true := by kernel_rfl
theorem k27_62 : fitAllN tab0 27 g27_62 = true := by kernel_rfl
theorem k27_86 : fitAllN tab0 27 g27_86 = true := by kernel_rfl
theorem k27_110 : fitAllN tab0 27 g27_110 = true := by kernel_rfl
theorem k27_134 : fitAllN tab0 27 g27_134 = true := by kernel_rfl
theorem k27_158 : fitAllN tab0 27 g27_158 = true := by kernel_rfl
theorem k27_182 : fitAllN tab0 27 g27_182 = true := by kernel_rfl
theorem k27_206 : fitAllN tab0 27 g27_206 = true := by kernel_rfl
theorem k27_230 : fitAllN tab0 27 g27_230 = true := by kernel_rfl
theorem k27_254 : fitAllN tab0 27 g27_254 = true := by kernel_rfl
theorem k27_278 : fitAllN tab0 27 g27_278 = true := by kernel_rfl
theorem k17_14 : fitAll tab0 17 g17_14 = true := by kernel_rfl
theorem k16_0 : fitAll tab0 16 g16_0 = true := by kernel_rfl
theorem k16_4 : fitAll tab0 16 g16_4 = true := by kernel_rfl
theorem k29_20 : fitAll tab0 29 g29_20 = true := by kernel_rfl
theorem k118_4 : fitsN c118_4 (evFN Tryz.prog [] sp0 1000 118 c118_4.args c118_4.start) = true := by kernel_rfl
end Go.Proofs.YtnjonnilpfenfaaGreatDoor.VmRows
