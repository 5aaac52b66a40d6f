/- The certificates hold. -/
import Derived.Test.YtnjonnilpfenfaaGreatDoorVwT
import Derived.KernelRfl
open Go.Ab
set_option maxRecDepth 100000
namespace Go.Proofs.YtnjonnilpfenfaaGreatDoor.VmWrites
theorem g29_28 : fitAll tab0 29 [c29_28, c29_29, c29_30, c29_31] = true := by kernel_rfl
theorem g21_60 : fitAll tab0 21 [c21_60, c21_61, c21_62, c21_63] = true := by kernel_rfl
theorem g21_124 : fitAll tab0 21 [c21_124, c21_125, c21_126, c21_127] = true := by kernel_rfl
theorem k27_6 : fitsRN c27_6 (run tab0 300 27 c27_6.args c27_6.start) = true := by kernel_rfl
theorem k118_0 : fitsN c118_0 (evFN Tryz.prog [] sp0 1000 118 c118_0.args c118_0.start) = true := by kernel_rfl
end Go.Proofs.YtnjonnilpfenfaaGreatDoor.VmWrites
