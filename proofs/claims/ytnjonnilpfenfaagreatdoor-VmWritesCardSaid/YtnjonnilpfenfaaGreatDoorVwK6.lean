/- The certificates hold. -/
import Derived.Test.YtnjonnilpfenfaaGreatDoorVwT
import Derived.KernelRfl
open Go.Ab
set_option maxRecDepth 100000
namespace Go.Proofs.YtnjonnilpfenfaaGreatDoor.VmWrites
theorem g29_20 : fitAll tab0 29 [c29_20, c29_21, c29_22, c29_23] = true := by kernel_rfl
theorem g21_52 : fitAll tab0 21 [c21_52, c21_53, c21_54, c21_55] = true := by kernel_rfl
theorem g21_116 : fitAll tab0 21 [c21_116, c21_117, c21_118, c21_119] = true := by kernel_rfl
theorem k27_4 : fitsRN c27_4 (run tab0 300 27 c27_4.args c27_4.start) = true := by kernel_rfl
theorem k25_0 : fitsR c25_0 (run tab0 300 25 c25_0.args c25_0.start) = true := by kernel_rfl
end Go.Proofs.YtnjonnilpfenfaaGreatDoor.VmWrites
