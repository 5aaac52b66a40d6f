/- The certificates hold. -/
import Derived.Test.YtnjonnilpfenfaaGreatDoorVwT
import Derived.KernelRfl
open Go.Ab
set_option maxRecDepth 100000
namespace Go.Proofs.YtnjonnilpfenfaaGreatDoor.VmWrites
theorem k18_0 : fitsR c18_0 (run tab0 300 18 c18_0.args c18_0.start) = true := by kernel_rfl
theorem g21_24 : fitAll tab0 21 [c21_24, c21_25, c21_26, c21_27] = true := by kernel_rfl
theorem g21_88 : fitAll tab0 21 [c21_88, c21_89, c21_90, c21_91] = true := by kernel_rfl
theorem g21_152 : fitAll tab0 21 [c21_152, c21_153, c21_154, c21_155] = true := by kernel_rfl
theorem k27_13 : fitsRN c27_13 (run tab0 300 27 c27_13.args c27_13.start) = true := by kernel_rfl
end Go.Proofs.YtnjonnilpfenfaaGreatDoor.VmWrites
