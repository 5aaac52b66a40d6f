/- The certificates hold. -/
import Derived.Test.YtnjonnilpfenfaaGreatDoorVwT
import Derived.KernelRfl
open Go.Ab
set_option maxRecDepth 100000
namespace Go.Proofs.YtnjonnilpfenfaaGreatDoor.VmWrites
theorem g21_4 : fitAll tab0 21 [c21_4, c21_5, c21_6, c21_7] = true := by kernel_rfl
theorem g21_12 : fitAll tab0 21 [c21_12, c21_13, c21_14, c21_15] = true := by kernel_rfl
theorem g21_76 : fitAll tab0 21 [c21_76, c21_77, c21_78, c21_79] = true := by kernel_rfl
theorem g21_140 : fitAll tab0 21 [c21_140, c21_141, c21_142, c21_143] = true := by kernel_rfl
theorem k27_10 : fitsRN c27_10 (run tab0 300 27 c27_10.args c27_10.start) = true := by kernel_rfl
end Go.Proofs.YtnjonnilpfenfaaGreatDoor.VmWrites
