/- Runs of the law. -/
import Derived.Test.YtnjonnilpfenfaaGreatDoorVsT
import Derived.Test.YtnjonnilpfenfaaGreatDoorLw
import Derived.KernelRfl
open Go.Ab
set_option maxRecDepth 100000
namespace Go.Proofs.YtnjonnilpfenfaaGreatDoor.VmSteps
theorem r_15_3 : isTs tab1 5 ((List.range 16).map fun k => [.rng 120 15 15, .rng 6 3 5, .cls 16 k]) = true := by kernel_rfl
theorem r_16_3 : isTs tab1 5 ((List.range 16).map fun k => [.rng 120 16 16, .rng 6 3 5, .cls 16 k]) = true := by kernel_rfl
theorem r_17_3 : isTs tab1 5 ((List.range 16).map fun k => [.rng 120 17 17, .rng 6 3 5, .cls 16 k]) = true := by kernel_rfl
theorem r_18_3 : isTs tab1 5 ((List.range 16).map fun k => [.rng 120 18 18, .rng 6 3 5, .cls 16 k]) = true := by kernel_rfl
theorem r_19_3 : isTs tab1 5 ((List.range 16).map fun k => [.rng 120 19 19, .rng 6 3 5, .cls 16 k]) = true := by kernel_rfl
theorem r_20_3 : isTs tab1 5 ((List.range 16).map fun k => [.rng 120 20 20, .rng 6 3 5, .cls 16 k]) = true := by kernel_rfl
theorem r_21_3 : isTs tab1 5 ((List.range 16).map fun k => [.rng 120 21 21, .rng 6 3 5, .cls 16 k]) = true := by kernel_rfl
theorem r_22_3 : isTs tab1 5 ((List.range 16).map fun k => [.rng 120 22 22, .rng 6 3 5, .cls 16 k]) = true := by kernel_rfl
theorem r_23_3 : isTs tab1 5 ((List.range 16).map fun k => [.rng 120 23 23, .rng 6 3 5, .cls 16 k]) = true := by kernel_rfl
end Go.Proofs.YtnjonnilpfenfaaGreatDoor.VmSteps
