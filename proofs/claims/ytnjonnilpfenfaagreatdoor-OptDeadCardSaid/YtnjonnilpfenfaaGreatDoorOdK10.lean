/- The certificates hold. -/
import Derived.Test.YtnjonnilpfenfaaGreatDoorOdT
import Derived.KernelRfl
open Go.Ab
set_option maxRecDepth 100000
namespace Go.Proofs.YtnjonnilpfenfaaGreatDoor.OptDead
theorem k21_10 : fitAll tab0 21 g21_10 = true := by kernel_rfl
theorem k21_34 : fitAll tab0 21 g21_34 = true := by kernel_rfl
theorem k21_58 : fitAll tab0 21 g21_58 = true := by kernel_rfl
theorem k12_2 : fitAllN tab1 12 g12_2 = true := by kernel_rfl
theorem k27_1 : fitAllN tab0 27 g27_1 = true := by kernel_rfl
theorem k27_24 : fitAllN tab0 27 g27_24 = true := by kernel_rfl
theorem k27_48 : fitAllN tab0 27 g27_48 = true := by kernel_rfl
theorem k27_72 : fitAllN tab0 27 g27_72 = true := by kernel_rfl
theorem k27_96 : fitAllN tab0 27 g27_96 = true := by kernel_rfl
theorem k27_120 : fitAllN tab0 27 g27_120 = true := by kernel_rfl
theorem k27_144 : fitAllN tab0 27 g27_144 = true := by kernel_rfl
theorem k27_168 : fitAllN tab0 27 g27_168 = true := by kernel_rfl
theorem k27_192 : fitAllN tab0 27 g27_192 = true := by kernel_rfl
theorem k27_216 : fitAllN tab0 27 g27_216 = true := by kernel_rfl
theorem k17_3 : fitAll tab0 17 g17_3 = true := by kernel_rfl
theorem k29_11 : fitAll tab0 29 g29_11 = true := by kernel_rfl
theorem k118_1 : fitsN c118_1 (evFN Tryz.prog [] sp0 1000 118 c118_1.args c118_1.start) = true := by kernel_rfl
end Go.Proofs.YtnjonnilpfenfaaGreatDoor.OptDead
