/- The certificates hold. -/
import Derived.Test.YtnjonnilpfenfaaGreatDoorVwT
import Derived.KernelRfl
open Go.Ab
set_option maxRecDepth 100000
namespace Go.Proofs.YtnjonnilpfenfaaGreatDoor.VmWrites
theorem g21_20 : fitAll tab0 21 [c21_20, c21_21, c21_22, c21_23] = true := by kernel_rfl
theorem g21_84 : fitAll tab0 21 [c21_84, c21_85, c21_86, c21_87] = true := by kernel_rfl
theorem g21_148 : fitAll tab0 21 [c21_148, c21_149, c21_150, c21_151] = true := by kernel_rfl
theorem k27_12 : fitsRN c27_12 (run tab0 300 27 c27_12.args c27_12.start) = true := by kernel_rfl
end Go.Proofs.YtnjonnilpfenfaaGreatDoor.VmWrites
