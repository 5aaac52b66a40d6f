/- Runs of the law. -/
import Derived.Test.YtnjonnilpfenfaaGreatDoorVsT
import Derived.Test.YtnjonnilpfenfaaGreatDoorLw
import Derived.KernelRfl
open Go.Ab
set_option maxRecDepth 100000
namespace Go.Proofs.YtnjonnilpfenfaaGreatDoor.VmSteps
theorem r_0_0 : isTs tab1 5 ((List.range 16).map fun k => [.rng 120 0 0, .rng 6 0 5, .cls 16 k]) = true := by kernel_rfl
theorem r_1_0 : isTs tab1 5 ((List.range 16).map fun k => [.rng 120 1 119, .rng 6 0 0, .cls 16 k]) = true := by kernel_rfl
theorem r_1_1 : isTs tab1 5 ((List.range 16).map fun k => [.rng 120 1 1, .rng 6 1 5, .cls 16 k]) = true := by kernel_rfl
theorem r_2_1 : isTs tab1 5 ((List.range 16).map fun k => [.rng 120 2 2, .rng 6 1 5, .cls 16 k]) = true := by kernel_rfl
theorem r_3_1 : isTs tab1 5 ((List.range 16).map fun k => [.rng 120 3 3, .rng 6 1 5, .cls 16 k]) = true := by kernel_rfl
theorem r_4_1 : isTs tab1 5 ((List.range 16).map fun k => [.rng 120 4 4, .rng 6 1 5, .cls 16 k]) = true := by kernel_rfl
theorem r_5_1 : isTs tab1 5 ((List.range 16).map fun k => [.rng 120 5 5, .rng 6 1 5, .cls 16 k]) = true := by kernel_rfl
theorem r_6_1 : isTs tab1 5 ((List.range 16).map fun k => [.rng 120 6 6, .rng 6 1 5, .cls 16 k]) = true := by kernel_rfl
theorem r_7_1 : isTs tab1 5 ((List.range 16).map fun k => [.rng 120 7 7, .rng 6 1 5, .cls 16 k]) = true := by kernel_rfl
end Go.Proofs.YtnjonnilpfenfaaGreatDoor.VmSteps
