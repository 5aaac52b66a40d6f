/- Runs of the law. -/
import Derived.Test.YtnjonnilpfenfaaGreatDoorVsT
import Derived.Test.YtnjonnilpfenfaaGreatDoorLw
import Derived.KernelRfl
open Go.Ab
set_option maxRecDepth 100000
namespace Go.Proofs.YtnjonnilpfenfaaGreatDoor.VmSteps
theorem r_24_3 : isTs tab1 5 ((List.range 16).map fun k => [.rng 120 24 24, .rng 6 3 5, .cls 16 k]) = true := by kernel_rfl
theorem r_25_3 : isTs tab1 5 ((List.range 16).map fun k => [.rng 120 25 25, .rng 6 3 5, .cls 16 k]) = true := by kernel_rfl
theorem r_26_3 : isTs tab1 5 ((List.range 16).map fun k => [.rng 120 26 26, .rng 6 3 5, .cls 16 k]) = true := by kernel_rfl
theorem r_27_3 : isTs tab1 5 ((List.range 16).map fun k => [.rng 120 27 27, .rng 6 3 5, .cls 16 k]) = true := by kernel_rfl
theorem r_28_3 : isTs tab1 5 ((List.range 16).map fun k => [.rng 120 28 28, .rng 6 3 5, .cls 16 k]) = true := by kernel_rfl
theorem r_29_3 : isTs tab1 5 ((List.range 16).map fun k => [.rng 120 29 29, .rng 6 3 5, .cls 16 k]) = true := by kernel_rfl
theorem r_30_3 : isTs tab1 5 ((List.range 16).map fun k => [.rng 120 30 30, .rng 6 3 5, .cls 16 k]) = true := by kernel_rfl
theorem r_31_3 : isTs tab1 5 ((List.range 16).map fun k => [.rng 120 31 119, .rng 6 3 5, .cls 16 k]) = true := by kernel_rfl
end Go.Proofs.YtnjonnilpfenfaaGreatDoor.VmSteps
