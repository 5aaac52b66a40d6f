/- The certificates hold. -/
import Derived.Test.YtnjonnilpfenfaaGreatDoorVrT
import Derived.KernelRfl
open Go.Ab
set_option maxRecDepth 100000
namespace Go.Proofs.YtnjonnilpfenfaaGreatDoor.VmRows
theorem k23_0 : fitAll tab0 23 g23_0 = true := by kernel_rfl
theorem k27_44 : fitAllN tab0 27 g27_44 = true := by kernel_rfl
theorem k27_68 : fitAllN tab0 27 g27_68 = true := by kernel_rfl
theorem k27_92 : fitAllN tab0 27 g27_92 = true := by kernel_rfl
theorem k27_116 : fitAllN tab0 27 g27_116 = true := by kernel_rfl
theorem k27_140 : fitAllN tab0 27 g27_140 = true := by kernel_rfl
theorem k27_164 : fitAllN tab0 27 g27_164 = true := by kernel_rfl
theorem k27_188 : fitAllN tab0 27 g27_188 = true := by kernel_rfl
theorem k27_212 : fitAllN tab0 27 g27_212 = true := by kernel_rfl
theorem k27_236 : fitAllN tab0 27 g27_236 = true := by kernel_rfl
theorem k27_260 : fitAllN tab0 27 g27_260 = true := by kernel_rfl
theorem k27_284 : fitAllN tab0 27 g27_284 = true := by kernel_rfl
theorem k18_2 : fitAll tab0 18 g18_2 = true := by kernel_rfl
theorem k18_6 : fitAll tab0 18 g18_6 = true := by kernel_rfl
theorem k16_10 : fitAll tab0 16 g16_10 = true := by kernel_rfl
theorem k29_26 : fitAll tab0 29 g29_26 = true := by kernel_rfl
end Go.Proofs.YtnjonnilpfenfaaGreatDoor.VmRows
