/- The certificates hold. -/
import Derived.Test.YtnjonnilpfenfaaGreatDoorVwT
import Derived.KernelRfl
open Go.Ab
set_option maxRecDepth 100000
namespace Go.Proofs.YtnjonnilpfenfaaGreatDoor.VmWrites
theorem g29_24 : fitAll tab0 29 [c29_24, c29_25, c29_26, c29_27] = true := by kernel_rfl
theorem g21_56 : fitAll tab0 21 [c21_56, c21_57, c21_58, c21_59] = true := by kernel_rfl
theorem g21_120 : fitAll tab0 21 [c21_120, c21_121, c21_122, c21_123] = true := by kernel_rfl
theorem k27_5 : fitsRN c27_5 (run tab0 300 27 c27_5.args c27_5.start) = true := by kernel_rfl
theorem k28_0 : fitsR c28_0 (run tab0 300 28 c28_0.args c28_0.start) = true := by kernel_rfl
end Go.Proofs.YtnjonnilpfenfaaGreatDoor.VmWrites
