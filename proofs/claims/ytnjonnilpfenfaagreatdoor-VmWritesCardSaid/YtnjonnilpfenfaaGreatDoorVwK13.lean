/- The certificates hold. -/
import Derived.Test.YtnjonnilpfenfaaGreatDoorVwT
import Derived.KernelRfl
open Go.Ab
set_option maxRecDepth 100000
namespace Go.Proofs.YtnjonnilpfenfaaGreatDoor.VmWrites
theorem k8_0 : fitsR c8_0 (run tab0 300 8 c8_0.args c8_0.start) = true := by kernel_rfl
theorem g21_16 : fitAll tab0 21 [c21_16, c21_17, c21_18, c21_19] = true := by kernel_rfl
theorem g21_80 : fitAll tab0 21 [c21_80, c21_81, c21_82, c21_83] = true := by kernel_rfl
theorem g21_144 : fitAll tab0 21 [c21_144, c21_145, c21_146, c21_147] = true := by kernel_rfl
theorem k27_11 : fitsRN c27_11 (run tab0 300 27 c27_11.args c27_11.start) = true := by kernel_rfl
end Go.Proofs.YtnjonnilpfenfaaGreatDoor.VmWrites
