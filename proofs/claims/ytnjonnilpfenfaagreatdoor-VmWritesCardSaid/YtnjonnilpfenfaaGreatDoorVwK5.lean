/- The certificates hold. -/
import Derived.Test.YtnjonnilpfenfaaGreatDoorVwT
import Derived.KernelRfl
open Go.Ab
set_option maxRecDepth 100000
namespace Go.Proofs.YtnjonnilpfenfaaGreatDoor.VmWrites
theorem g29_16 : fitAll tab0 29 [c29_16, c29_17, c29_18, c29_19] = true := by kernel_rfl
theorem g21_48 : fitAll tab0 21 [c21_48, c21_49, c21_50, c21_51] = true := by kernel_rfl
theorem g21_112 : fitAll tab0 21 [c21_112, c21_113, c21_114, c21_115] = true := by kernel_rfl
theorem k27_3 : fitsRN c27_3 (run tab0 300 27 c27_3.args c27_3.start) = true := by kernel_rfl
theorem k24_0 : fitsR c24_0 (run tab0 300 24 c24_0.args c24_0.start) = true := by kernel_rfl
end Go.Proofs.YtnjonnilpfenfaaGreatDoor.VmWrites
