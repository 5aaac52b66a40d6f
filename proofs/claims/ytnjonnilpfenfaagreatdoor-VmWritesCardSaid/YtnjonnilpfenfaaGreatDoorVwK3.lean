/- The certificates hold. -/
import Derived.Test.YtnjonnilpfenfaaGreatDoorVwT
import Derived.KernelRfl
open Go.Ab
set_option maxRecDepth 100000
namespace Go.Proofs.YtnjonnilpfenfaaGreatDoor.VmWrites
theorem g29_8 : fitAll tab0 29 [c29_8, c29_9, c29_10, c29_11] = true := by kernel_rfl
theorem g21_40 : fitAll tab0 21 [c21_40, c21_41, c21_42, c21_43] = true := by kernel_rfl
theorem g21_104 : fitAll tab0 21 [c21_104, c21_105, c21_106, c21_107] = true := by kernel_rfl
theorem k27_1 : fitsRN c27_1 (run tab0 300 27 c27_1.args c27_1.start) = true := by kernel_rfl
theorem k22_0 : fitsR c22_0 (run tab0 300 22 c22_0.args c22_0.start) = true := by kernel_rfl
end Go.Proofs.YtnjonnilpfenfaaGreatDoor.VmWrites
