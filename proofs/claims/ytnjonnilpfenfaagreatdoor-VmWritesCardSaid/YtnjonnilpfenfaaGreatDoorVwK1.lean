/- The certificates hold. -/
import Derived.Test.YtnjonnilpfenfaaGreatDoorVwT
import Derived.KernelRfl
open Go.Ab
set_option maxRecDepth 100000
namespace Go.Proofs.YtnjonnilpfenfaaGreatDoor.VmWrites
theorem g29_0 : fitAll tab0 29 [c29_0, c29_1, c29_2, c29_3] = true := by kernel_rfl
theorem g21_32 : fitAll tab0 21 [c21_32, c21_33, c21_34, c21_35] = true := by kernel_rfl
theorem g21_96 : fitAll tab0 21 [c21_96, c21_97, c21_98, c21_99] = true := by kernel_rfl
theorem k19_0 : fitsR c19_0 (run tab0 300 19 c19_0.args c19_0.start) = true := by kernel_rfl
theorem k27_14 : fitsRN c27_14 (run tab0 300 27 c27_14.args c27_14.start) = true := by kernel_rfl
end Go.Proofs.YtnjonnilpfenfaaGreatDoor.VmWrites
