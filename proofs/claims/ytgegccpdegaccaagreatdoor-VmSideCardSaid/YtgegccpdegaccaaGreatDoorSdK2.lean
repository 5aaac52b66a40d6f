/- The certificates hold. -/
import Derived.Test.YtgegccpdegaccaaGreatDoorSdT
import Derived.KernelRfl
open Go.Ab
set_option maxRecDepth 100000
namespace Go.Proofs.YtgegccpdegaccaaGreatDoor.VmSide
theorem k9_0 : fitAll tab0 9 g9_0 = true := by kernel_rfl
theorem k12_2 : fitAllN tab0 12 g12_2 = true := by kernel_rfl
theorem k12_6 : fitAllN tab0 12 g12_6 = true := by kernel_rfl
theorem k12_10 : fitAllN tab0 12 g12_10 = true := by kernel_rfl
theorem k12_14 : fitAllN tab0 12 g12_14 = true := by kernel_rfl
theorem k14_1 : fitAll tab0 14 g14_1 = true := by kernel_rfl
theorem k17_1 : fitAll tab0 17 g17_1 = true := by kernel_rfl
theorem k114_2 : fitsN c114_2 (evFN Tryz.prog [] sp0 1000 114 c114_2.args c114_2.start) = true := by kernel_rfl
end Go.Proofs.YtgegccpdegaccaaGreatDoor.VmSide
