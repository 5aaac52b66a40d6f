/- The certificates hold. -/
import Derived.Test.YtnjonnilpfenfaaGreatDoorVwT
import Derived.KernelRfl
open Go.Ab
set_option maxRecDepth 100000
namespace Go.Proofs.YtnjonnilpfenfaaGreatDoor.VmWrites
theorem g29_32 : fitAll tab0 29 [c29_32, c29_33, c29_34, c29_35] = true := by kernel_rfl
theorem g21_64 : fitAll tab0 21 [c21_64, c21_65, c21_66, c21_67] = true := by kernel_rfl
theorem g21_128 : fitAll tab0 21 [c21_128, c21_129, c21_130, c21_131] = true := by kernel_rfl
theorem k27_7 : fitsRN c27_7 (run tab0 300 27 c27_7.args c27_7.start) = true := by kernel_rfl
theorem k118_1 : fitsN c118_1 (evFN Tryz.prog [] sp0 1000 118 c118_1.args c118_1.start) = true := by kernel_rfl
end Go.Proofs.YtnjonnilpfenfaaGreatDoor.VmWrites
