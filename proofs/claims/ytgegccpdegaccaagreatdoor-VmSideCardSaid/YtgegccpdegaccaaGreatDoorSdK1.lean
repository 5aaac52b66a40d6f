/- The certificates hold. -/
import Derived.Test.YtgegccpdegaccaaGreatDoorSdT
import Derived.KernelRfl
open Go.Ab
set_option maxRecDepth 100000
namespace Go.Proofs.YtgegccpdegaccaaGreatDoor.VmSide
theorem k8_0 : fitAll tab0 8 g8_0 = true := by kernel_rfl
theorem k12_1 : fitAllN tab0 12 g12_1 = true := by kernel_rfl
theorem k12_5 : fitAllN tab0 12 g12_5 = true := by kernel_rfl
theorem k12_9 : fitAllN tab0 12 g12_9 = true := by kernel_rfl
theorem k12_13 : fitAllN tab0 12 g12_13 = true := by kernel_rfl
theorem k14_0 : fitAll tab0 14 g14_0 = true := by kernel_rfl
theorem k17_0 : fitAll tab0 17 g17_0 = true := by kernel_rfl
theorem k114_1 : fitsN c114_1 (evFN Tryz.prog [] sp0 1000 114 c114_1.args c114_1.start) = true := by kernel_rfl
end Go.Proofs.YtgegccpdegaccaaGreatDoor.VmSide
