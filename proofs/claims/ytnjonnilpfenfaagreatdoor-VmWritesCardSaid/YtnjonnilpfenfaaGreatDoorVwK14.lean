/- The certificates hold. -/
import Derived.Test.YtnjonnilpfenfaaGreatDoorVwT
import Derived.KernelRfl
open Go.Ab
set_option maxRecDepth 100000
namespace Go.Proofs.YtnjonnilpfenfaaGreatDoor.VmWrites
theorem g21_0 : fitAll tab0 21 [c21_0, c21_1, c21_2, c21_3] = true := by kernel_rfl
theorem g21_8 : fitAll tab0 21 [c21_8, c21_9, c21_10, c21_11] = true := by kernel_rfl
theorem g21_72 : fitAll tab0 21 [c21_72, c21_73, c21_74, c21_75] = true := by kernel_rfl
theorem g21_136 : fitAll tab0 21 [c21_136, c21_137, c21_138, c21_139] = true := by kernel_rfl
theorem k27_9 : fitsRN c27_9 (run tab0 300 27 c27_9.args c27_9.start) = true := by kernel_rfl
end Go.Proofs.YtnjonnilpfenfaaGreatDoor.VmWrites
