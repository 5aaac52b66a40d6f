/- Runs of the law. -/
import Derived.Test.YtnjonnilpfenfaaGreatDoorVwT
import Derived.Test.YtnjonnilpfenfaaGreatDoorLw
import Derived.KernelRfl
open Go.Ab
set_option maxRecDepth 100000
namespace Go.Proofs.YtnjonnilpfenfaaGreatDoor.VmWrites
theorem r_20 : isTs tab1 4 ((List.range 16).map fun k => [.cls 40 20, .cls 16 k]) = true := by kernel_rfl
theorem r_21 : isTs tab1 4 ((List.range 16).map fun k => [.cls 40 21, .cls 16 k]) = true := by kernel_rfl
theorem r_22 : isTs tab1 4 ((List.range 16).map fun k => [.cls 40 22, .cls 16 k]) = true := by kernel_rfl
theorem r_23 : isTs tab1 4 ((List.range 16).map fun k => [.cls 40 23, .cls 16 k]) = true := by kernel_rfl
theorem r_24 : isTs tab1 4 ((List.range 16).map fun k => [.cls 40 24, .cls 16 k]) = true := by kernel_rfl
end Go.Proofs.YtnjonnilpfenfaaGreatDoor.VmWrites
