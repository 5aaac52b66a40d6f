/- The certificates hold. -/
import Derived.Test.YtnjonnilpfenfaaGreatDoorOdT
import Derived.KernelRfl
open Go.Ab
set_option maxRecDepth 100000
namespace Go.Proofs.YtnjonnilpfenfaaGreatDoor.OptDead
theorem k21_9 : fitAll tab0 21 g21_9 = true := by kernel_rfl
theorem k21_33 : fitAll tab0 21 g21_33 = true := by kernel_rfl
theorem k21_57 : fitAll tab0 21 g21_57 = true := by kernel_rfl
theorem k12_1 : fitAllN tab1 12 g12_1 = true := by kernel_rfl
theorem k27_0 : fitAllN tab0 27 g27_0 = true := by kernel_rfl
theorem k27_23 : fitAllN tab0 27 g27_23 = true := by kernel_rfl
theorem k27_47 : fitAllN tab0 27 g27_47 = true := by kernel_rfl
theorem k27_71 : fitAllN tab0 27 g27_71 = true := by kernel_rfl
theorem k27_95 : fitAllN tab0 27 g27_95 = true := by kernel_rfl
theorem k27_119 : fitAllN tab0 27 g27_119 = true := by kernel_rfl
theorem k27_143 : fitAllN tab0 27 g27_143 = true := by kernel_rfl
theorem k27_167 : fitAllN tab0 27 g27_167 = true := by kernel_rfl
theorem k27_191 : fitAllN tab0 27 g27_191 = true := by kernel_rfl
theorem k27_215 : fitAllN tab0 27 g27_215 = true := by kernel_rfl
theorem k17_2 : fitAll tab0 17 g17_2 = true := by kernel_rfl
theorem k29_10 : fitAll tab0 29 g29_10 = true := by kernel_rfl
theorem k118_0 : fitsN c118_0 (evFN Tryz.prog [] sp0 1000 118 c118_0.args c118_0.start) = true := by kernel_rfl
end Go.Proofs.YtnjonnilpfenfaaGreatDoor.OptDead
