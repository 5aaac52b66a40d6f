/- The certificates hold. -/
import Derived.Test.YtnjonnilpfenfaaGreatDoorOdT
import Derived.KernelRfl
open Go.Ab
set_option maxRecDepth 100000
namespace Go.Proofs.YtnjonnilpfenfaaGreatDoor.OptDead
theorem k21_11 : fitAll tab0 21 g21_11 = true := by kernel_rfl
theorem k21_35 : fitAll tab0 21 g21_35 = true := by kernel_rfl
theorem k21_59 : fitAll tab0 21 g21_59 = true := by kernel_rfl
theorem k12_3 : fitAllN tab1 12 g12_3 = true := by kernel_rfl
theorem k27_2 : fitAllN tab0 27 g27_2 = true := by kernel_rfl
theorem k27_25 : fitAllN tab0 27 g27_25 = true := by kernel_rfl
theorem k27_49 : fitAllN tab0 27 g27_49 = true := by kernel_rfl
theorem k27_73 : fitAllN tab0 27 g27_73 = true := by kernel_rfl
theorem k27_97 : fitAllN tab0 27 g27_97 = true := by kernel_rfl
theorem k27_121 : fitAllN tab0 27 g27_121 = true := by kernel_rfl
theorem k27_145 : fitAllN tab0 27 g27_145 = true := by kernel_rfl
theorem k27_169 : fitAllN tab0 27 g27_169 = true := by kernel_rfl
theorem k27_193 : fitAllN tab0 27 g27_193 = true := by kernel_rfl
theorem k27_217 : fitAllN tab0 27 g27_217 = true := by kernel_rfl
theorem k17_4 : fitAll tab0 17 g17_4 = true := by kernel_rfl
theorem k29_12 : fitAll tab0 29 g29_12 = true := by kernel_rfl
theorem k118_2 : fitsN c118_2 (evFN Tryz.prog [] sp0 1000 118 c118_2.args c118_2.start) = true := by kernel_rfl
end Go.Proofs.YtnjonnilpfenfaaGreatDoor.OptDead
