/- Runs of the law. -/
import Derived.Test.YtnjonnilpfenfaaGreatDoorVwT
import Derived.Test.YtnjonnilpfenfaaGreatDoorLw
import Derived.KernelRfl
open Go.Ab
set_option maxRecDepth 100000
namespace Go.Proofs.YtnjonnilpfenfaaGreatDoor.VmWrites
theorem r_30 : isTs tab1 4 ((List.range 16).map fun k => [.cls 40 30, .cls 16 k]) = true := by kernel_rfl
theorem r_31 : isTs tab1 4 ((List.range 16).map fun k => [.cls 40 31, .cls 16 k]) = true := by kernel_rfl
theorem r_32 : isTs tab1 4 ((List.range 16).map fun k => [.cls 40 32, .cls 16 k]) = true := by kernel_rfl
theorem r_33 : isTs tab1 4 ((List.range 16).map fun k => [.cls 40 33, .cls 16 k]) = true := by kernel_rfl
theorem r_34 : isTs tab1 4 ((List.range 16).map fun k => [.cls 40 34, .cls 16 k]) = true := by kernel_rfl
end Go.Proofs.YtnjonnilpfenfaaGreatDoor.VmWrites
