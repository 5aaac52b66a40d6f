/- The certificates hold. -/
import Derived.Test.YtgegccpdegaccaaGreatDoorSdT
import Derived.KernelRfl
open Go.Ab
set_option maxRecDepth 100000
namespace Go.Proofs.YtgegccpdegaccaaGreatDoor.VmSide
theorem k6_0 : fitAll tab0 6 g6_0 = true := by kernel_rfl
theorem k12_0 : fitAllN tab0 12 g12_0 = true := by kernel_rfl
theorem k12_4 : fitAllN tab0 12 g12_4 = true := by kernel_rfl
theorem k12_8 : fitAllN tab0 12 g12_8 = true := by kernel_rfl
theorem k12_12 : fitAllN tab0 12 g12_12 = true := by kernel_rfl
theorem k13_0 : fitAll tab0 13 g13_0 = true := by kernel_rfl
theorem k15_1 : fitAll tab0 15 g15_1 = true := by kernel_rfl
theorem k114_0 : fitsN c114_0 (evFN Tryz.prog [] sp0 1000 114 c114_0.args c114_0.start) = true := by kernel_rfl
end Go.Proofs.YtgegccpdegaccaaGreatDoor.VmSide
