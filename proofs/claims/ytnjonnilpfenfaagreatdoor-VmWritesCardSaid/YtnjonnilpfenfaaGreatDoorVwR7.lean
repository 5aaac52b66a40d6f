/- Runs of the law. -/
import Derived.Test.YtnjonnilpfenfaaGreatDoorVwT
import Derived.Test.YtnjonnilpfenfaaGreatDoorLw
import Derived.KernelRfl
open Go.Ab
set_option maxRecDepth 100000
namespace Go.Proofs.YtnjonnilpfenfaaGreatDoor.VmWrites
theorem r_35 : isTs tab1 4 ((List.range 16).map fun k => [.cls 40 35, .cls 16 k]) = true := by kernel_rfl
theorem r_36 : isTs tab1 4 ((List.range 16).map fun k => [.cls 40 36, .cls 16 k]) = true := by kernel_rfl
theorem r_37 : isTs tab1 4 ((List.range 16).map fun k => [.cls 40 37, .cls 16 k]) = true := by kernel_rfl
theorem r_38 : isTs tab1 4 ((List.range 16).map fun k => [.cls 40 38, .cls 16 k]) = true := by kernel_rfl
theorem r_39 : isTs tab1 4 ((List.range 16).map fun k => [.cls 40 39, .cls 16 k]) = true := by kernel_rfl
end Go.Proofs.YtnjonnilpfenfaaGreatDoor.VmWrites
