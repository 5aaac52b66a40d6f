/- The certificates hold. -/
import Derived.Test.YtnjonnilpfenfaaGreatDoorVwT
import Derived.KernelRfl
open Go.Ab
set_option maxRecDepth 100000
namespace Go.Proofs.YtnjonnilpfenfaaGreatDoor.VmWrites
theorem g29_4 : fitAll tab0 29 [c29_4, c29_5, c29_6, c29_7] = true := by kernel_rfl
theorem g21_36 : fitAll tab0 21 [c21_36, c21_37, c21_38, c21_39] = true := by kernel_rfl
theorem g21_100 : fitAll tab0 21 [c21_100, c21_101, c21_102, c21_103] = true := by kernel_rfl
theorem k27_0 : fitsRN c27_0 (run tab0 300 27 c27_0.args c27_0.start) = true := by kernel_rfl
theorem k27_15 : fitsRN c27_15 (run tab0 300 27 c27_15.args c27_15.start) = true := by kernel_rfl
end Go.Proofs.YtnjonnilpfenfaaGreatDoor.VmWrites
