/- Runs of the law. -/
import Derived.Test.YtnjonnilpfenfaaGreatDoorVwT
import Derived.Test.YtnjonnilpfenfaaGreatDoorLw
import Derived.KernelRfl
open Go.Ab
set_option maxRecDepth 100000
namespace Go.Proofs.YtnjonnilpfenfaaGreatDoor.VmWrites
theorem r_0 : isTs tab1 4 ((List.range 16).map fun k => [.cls 40 0, .cls 16 k]) = true := by kernel_rfl
theorem r_1 : isTs tab1 4 ((List.range 16).map fun k => [.cls 40 1, .cls 16 k]) = true := by kernel_rfl
theorem r_2 : isTs tab1 4 ((List.range 16).map fun k => [.cls 40 2, .cls 16 k]) = true := by kernel_rfl
theorem r_3 : isTs tab1 4 ((List.range 16).map fun k => [.cls 40 3, .cls 16 k]) = true := by kernel_rfl
theorem r_4 : isTs tab1 4 ((List.range 16).map fun k => [.cls 40 4, .cls 16 k]) = true := by kernel_rfl
end Go.Proofs.YtnjonnilpfenfaaGreatDoor.VmWrites
