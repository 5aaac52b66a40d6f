/- The certificates hold. -/
import Derived.Test.YtnjonnilpfenfaaGreatDoorVwT
import Derived.KernelRfl
open Go.Ab
set_option maxRecDepth 100000
namespace Go.Proofs.YtnjonnilpfenfaaGreatDoor.VmWrites
theorem g29_12 : fitAll tab0 29 [c29_12, c29_13, c29_14, c29_15] = true := by kernel_rfl
theorem g21_44 : fitAll tab0 21 [c21_44, c21_45, c21_46, c21_47] = true := by kernel_rfl
theorem g21_108 : fitAll tab0 21 [c21_108, c21_109, c21_110, c21_111] = true := by kernel_rfl
theorem k27_2 : fitsRN c27_2 (run tab0 300 27 c27_2.args c27_2.start) = true := by kernel_rfl
theorem k23_0 : fitsR c23_0 (run tab0 300 23 c23_0.args c23_0.start) = true := by kernel_rfl
end Go.Proofs.YtnjonnilpfenfaaGreatDoor.VmWrites
