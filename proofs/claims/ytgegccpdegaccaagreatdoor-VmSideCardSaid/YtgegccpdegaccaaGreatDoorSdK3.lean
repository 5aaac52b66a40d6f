/- The certificates hold. -/
import Derived.Test.YtgegccpdegaccaaGreatDoorSdT
import Derived.KernelRfl
open Go.Ab
set_option maxRecDepth 100000
namespace Go.Proofs.YtgegccpdegaccaaGreatDoor.VmSide
theorem k10_0 : fitAll tab0 10 g10_0 = true := by kernel_rfl
theorem k12_3 : fitAllN tab0 12 g12_3 = true := by kernel_rfl
theorem k12_7 : fitAllN tab0 12 g12_7 = true := by kernel_rfl
theorem k12_11 : fitAllN tab0 12 g12_11 = true := by kernel_rfl
theorem k12_15 : fitAllN tab0 12 g12_15 = true := by kernel_rfl
theorem k15_0 : fitAll tab0 15 g15_0 = true := by kernel_rfl
theorem k17_2 : fitAll tab0 17 g17_2 = true := by kernel_rfl
theorem k114_3 : fitsN c114_3 (evFN Tryz.prog [] sp0 1000 114 c114_3.args c114_3.start) = true := by kernel_rfl
end Go.Proofs.YtgegccpdegaccaaGreatDoor.VmSide
