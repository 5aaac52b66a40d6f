/- Runs of the law. -/
import Derived.Test.YtnjonnilpfenfaaGreatDoorVwT
import Derived.Test.YtnjonnilpfenfaaGreatDoorLw
import Derived.KernelRfl
open Go.Ab
set_option maxRecDepth 100000
namespace Go.Proofs.YtnjonnilpfenfaaGreatDoor.VmWrites
theorem r_10 : isTs tab1 4 ((List.range 16).map fun k => [.cls 40 10, .cls 16 k]) = true := by kernel_rfl
theorem r_11 : isTs tab1 4 ((List.range 16).map fun k => [.cls 40 11, .cls 16 k]) = true := by kernel_rfl
theorem r_12 : isTs tab1 4 ((List.range 16).map fun k => [.cls 40 12, .cls 16 k]) = true := by kernel_rfl
theorem r_13 : isTs tab1 4 ((List.range 16).map fun k => [.cls 40 13, .cls 16 k]) = true := by kernel_rfl
theorem r_14 : isTs tab1 4 ((List.range 16).map fun k => [.cls 40 14, .cls 16 k]) = true := by kernel_rfl
end Go.Proofs.YtnjonnilpfenfaaGreatDoor.VmWrites
