/- The certificates hold. -/
import Derived.Test.YtnjonnilpfenfaaGreatDoorVwT
import Derived.KernelRfl
open Go.Ab
set_option maxRecDepth 100000
namespace Go.Proofs.YtnjonnilpfenfaaGreatDoor.VmWrites
theorem g29_36 : fitAll tab0 29 [c29_36, c29_37, c29_38, c29_39] = true := by kernel_rfl
theorem g21_68 : fitAll tab0 21 [c21_68, c21_69, c21_70, c21_71] = true := by kernel_rfl
theorem g21_132 : fitAll tab0 21 [c21_132, c21_133, c21_134, c21_135] = true := by kernel_rfl
theorem k27_8 : fitsRN c27_8 (run tab0 300 27 c27_8.args c27_8.start) = true := by kernel_rfl
end Go.Proofs.YtnjonnilpfenfaaGreatDoor.VmWrites
