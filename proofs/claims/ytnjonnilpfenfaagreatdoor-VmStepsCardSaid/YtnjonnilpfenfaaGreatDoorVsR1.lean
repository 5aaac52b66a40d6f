/- Runs of the law. -/
import Derived.Test.YtnjonnilpfenfaaGreatDoorVsT
import Derived.Test.YtnjonnilpfenfaaGreatDoorLw
import Derived.KernelRfl
open Go.Ab
set_option maxRecDepth 100000
namespace Go.Proofs.YtnjonnilpfenfaaGreatDoor.VmSteps
theorem r_8_1 : isTs tab1 5 ((List.range 16).map fun k => [.rng 120 8 119, .rng 6 1 1, .cls 16 k]) = true := by kernel_rfl
theorem r_8_2 : isTs tab1 5 ((List.range 16).map fun k => [.rng 120 8 8, .rng 6 2 5, .cls 16 k]) = true := by kernel_rfl
theorem r_9_2 : isTs tab1 5 ((List.range 16).map fun k => [.rng 120 9 9, .rng 6 2 5, .cls 16 k]) = true := by kernel_rfl
theorem r_10_2 : isTs tab1 5 ((List.range 16).map fun k => [.rng 120 10 10, .rng 6 2 5, .cls 16 k]) = true := by kernel_rfl
theorem r_11_2 : isTs tab1 5 ((List.range 16).map fun k => [.rng 120 11 11, .rng 6 2 5, .cls 16 k]) = true := by kernel_rfl
theorem r_12_2 : isTs tab1 5 ((List.range 16).map fun k => [.rng 120 12 12, .rng 6 2 5, .cls 16 k]) = true := by kernel_rfl
theorem r_13_2 : isTs tab1 5 ((List.range 16).map fun k => [.rng 120 13 13, .rng 6 2 5, .cls 16 k]) = true := by kernel_rfl
theorem r_14_2 : isTs tab1 5 ((List.range 16).map fun k => [.rng 120 14 14, .rng 6 2 5, .cls 16 k]) = true := by kernel_rfl
theorem r_15_2 : isTs tab1 5 ((List.range 16).map fun k => [.rng 120 15 119, .rng 6 2 2, .cls 16 k]) = true := by kernel_rfl
end Go.Proofs.YtnjonnilpfenfaaGreatDoor.VmSteps
