/- The certificates hold. -/
import Derived.Test.YtnjonnilpfenfaaGreatDoorVwT
import Derived.KernelRfl
open Go.Ab
set_option maxRecDepth 100000
namespace Go.Proofs.YtnjonnilpfenfaaGreatDoor.VmWrites
theorem k17_0 : fitsR c17_0 (run tab0 300 17 c17_0.args c17_0.start) = true := by kernel_rfl
theorem g21_28 : fitAll tab0 21 [c21_28, c21_29, c21_30, c21_31] = true := by kernel_rfl
theorem g21_92 : fitAll tab0 21 [c21_92, c21_93, c21_94, c21_95] = true := by kernel_rfl
theorem g21_156 : fitAll tab0 21 [c21_156, c21_157, c21_158, c21_159] = true := by kernel_rfl
end Go.Proofs.YtnjonnilpfenfaaGreatDoor.VmWrites
